/- Joined texts (Pna Pne Fa HEa HEb HEc HYx HEd HEe HEf HEg HEh HEi HEk HWi HWj HWh HWk HWl): the machine, the contracts, the laws. Conditions: none but those that each names. -/
import Derived.Test.YtpijanidieamlaaDoorJb
import Derived.KernelRfl
import Derived.Laws.Bits64b
import Derived.Lib.LaidTab
import Derived.Lib.Zigzag
import Derived.MakeChecks
import Derived.OpenShut
import Derived.SliceStrings
import Derived.Test.YtpijanidieamlaaDoorProg
import Derived.Test.YtpijanidieamlaaDoorRows
set_option linter.unusedSimpArgs false
set_option linter.unusedVariables false
namespace Go.PM
open Go.RowKit
section
variable {P : Program} {G : Globs} {E : Amb} {A : Nat → Prop} {σ : PState} {a : Act} {w : World}
/-- what comes back from a call with objects of the caller's -/
theorem Sim.calledI {w' : World} {A' : Nat → Prop} {Hin Hout rest : Heap} {F : List Int} (hs : Sim G E A σ a w) (hF : ∀ n, n ∈ names σ.heap ∨ n ∈ E.F → n ∈ F)
    (hin : ∀ x ∈ Hin, x ∈ σ.heap) (hrest : ∀ x ∈ rest, x ∈ σ.heap ∧ x.1 ∉ names Hin) (hrn : (names rest).Nodup)
    (hs' : Sim G ⟨w, A, Hin.map (·.1), F⟩ A' ⟨[], Hout⟩ ⟨#[], []⟩ w') : (∀ n ∈ names Hout, n ∉ names rest) ∧ Sim G E A' ⟨σ.frame, Hout ++ rest⟩ a w' := by
  have hmem : ∀ b : Nat, (b : Int) ∈ Hin.map (·.1) → ∃ o, ((b : Int), o) ∈ σ.heap := by
    intro b hb
    obtain ⟨⟨n, o⟩, h1, h2⟩ := List.mem_map.1 hb
    simp only at h2
    subst h2
    exact ⟨o, hin _ h1⟩
  have he := hs'.ext
  have hM : ∀ b, A b → ¬ (b : Int) ∈ Hin.map (·.1) := by
    intro b hb hm
    obtain ⟨o, ho⟩ := hmem b hm
    exact (hs.own _ o ho b rfl).2.1 hb
  have hdis : ∀ n ∈ names Hout, n ∉ names rest := by
    intro n hn hn'
    obtain ⟨⟨n1, o1⟩, h1, rfl⟩ := List.mem_map.1 hn
    obtain ⟨⟨n2, o2⟩, h2, e2⟩ := List.mem_map.1 hn'
    simp only at e2
    subst e2
    obtain ⟨h2a, h2b⟩ := hrest _ h2
    by_cases hneg : n2 < 0
    · rcases hs'.neg n2 o1 h1 hneg with h | h
      · exact h (hF _ (.inl (List.mem_map.2 ⟨_, h2a, rfl⟩)))
      · exact h2b h
    · obtain ⟨b, hb⟩ : ∃ b : Nat, n2 = b := ⟨n2.toNat, by omega⟩
      obtain ⟨q1, q2, q3⟩ := hs'.own n2 o1 h1 b hb
      have := (hs.own n2 o2 h2a b hb).1
      rcases q3 with h | h
      · simp only at h; omega
      · exact h2b (hb ▸ h)
  refine ⟨hdis, hs.ext.trans he ?_, hs'.lt, fun b hb => hs'.a0 b (hs.a0 b hb), fun b hb => ?_, hs'.globs, ?_, fun n o h => ?_, fun n o h b hb => ?_, fun n o h hn => ?_, hs.defers, hs.size, fun i p hp => ?_⟩
  · intro x hx hm
    obtain ⟨o, ho⟩ := hmem x hm
    rcases (hs.own _ o ho x rfl).2.2 with h | h
    · omega
    · exact h
  · rcases hs'.a1 b hb with h | h
    · exact hs.a1 b h
    · exact .inr (Nat.le_trans hs.ext.size h)
  · rw [List.map_append]
    exact List.nodup_append.2 ⟨hs'.nodup, hrn, fun x hx y hy e => hdis x hx (e ▸ hy)⟩
  · rcases List.mem_append.1 h with h | h
    · exact hs'.objs n o h
    · refine (hs.objs n o (hrest _ h).1).ext he hs'.a0 hM ?_
      intro b hb hm
      exact (hrest _ h).2 (hb ▸ hm)
  · rcases List.mem_append.1 h with h | h
    · obtain ⟨q1, q2, q3⟩ := hs'.own n o h b hb
      refine ⟨q1, q2, ?_⟩
      rcases q3 with h3 | h3
      · exact .inl (Nat.le_trans hs.ext.size h3)
      · obtain ⟨o', ho'⟩ := hmem b h3
        exact (hs.own _ o' ho' b rfl).2.2
    · obtain ⟨q1, q2, q3⟩ := hs.own n o (hrest _ h).1 b hb
      refine ⟨Nat.lt_of_lt_of_le q1 he.size, fun hb' => ?_, q3⟩
      rcases hs'.a1 b hb' with h | h
      · exact q2 h
      · simp only at h
        omega
  · rcases List.mem_append.1 h with h | h
    · rcases hs'.neg n o h hn with h | h
      · exact .inl fun h' => h (hF _ (.inr h'))
      · obtain ⟨⟨n2, o2⟩, h2, e2⟩ := List.mem_map.1 h
        simp only at e2
        subst e2
        exact hs.neg n2 o2 (hin _ h2) hn
    · exact hs.neg n o (hrest _ h).1 hn
  · obtain ⟨v, hv, hr⟩ := hs.frame i p hp
    exact ⟨v, hv, hr.ext he hs'.a0 hM⟩
/-- A row that is turned no more from its birth on, beside other objects. -/
theorem WL_bornH {I : List Int} {l0 l : List Oper} {K : PState → Prop} {N d : Nat} {L : List (Nat × PV)} {n : Int} {e : TypeId} {es len : Nat} {cells : List PV} {H : Heap} (hI : n ∉ I) (hc : len * es ≤ cells.length ∧ 0 < es)
    (hL : ∀ x ∈ L, frz n cells x.2 = x.2) (hH : ∀ x ∈ H, x.1 ≠ n ∧ ∀ u ∈ x.2.cells, frz1 n cells u = u ∧ u.one = true)
    (h : WL P G I l0 l ⟨fr N ((d, .list es (elemsOf es cells len)) :: L), H⟩ K) : WL P G I l0 l ⟨fr N ((d, .row n es len) :: L), (n, ⟨e, true, es, cells⟩) :: H⟩ K := by
  have hdel : del ((n, (⟨e, true, es, cells⟩ : PObj)) :: H) n = H := by
    simp only [del, if_true]
  refine WL_x ?_ h
  have h1 := Wx.freeze_f (G := G) (I := I) (N := N) (l := (d, .row n es len) :: L) (H := (n, ⟨e, true, es, cells⟩) :: H) n (o := ⟨e, true, es, cells⟩) hI (by simp only [look, if_true]) (by
    intro x hx u hu
    rw [hdel] at hx
    obtain ⟨h2, h3⟩ := (hH x hx).2 u hu
    rw [h2]
    exact h3)
  have e1 : L.map (fun x => (x.1, frz n cells x.2)) = L := by
    conv => rhs; rw [← List.map_id L]
    exact List.map_congr_left fun x hx => by rw [hL x hx]; rfl
  have e2 : frz n cells (.row n es len) = .list es (elemsOf es cells len) := by
    simp only [frz, frz1, if_true]
    rw [if_pos hc]
  have e3 : frzH n cells ((n, ⟨e, true, es, cells⟩) :: H) = H := by
    unfold frzH
    rw [hdel]
    conv => rhs; rw [← List.map_id H]
    refine List.map_congr_left fun x hx => ?_
    have h4 : x.2.cells.map (frz1 n cells) = x.2.cells := by
      conv => rhs; rw [← List.map_id x.2.cells]
      exact List.map_congr_left fun u hu => ((hH x hx).2 u hu).1
    rw [h4]
    rfl
  rw [List.map_cons, e1] at h1
  simp only [e2, e3] at h1
  exact h1
end
section
variable {P : Program} {G : Globs} {E : Amb} {A : Nat → Prop} {σ : PState} {a : Act} {w : World} {q : Bool}
/-- what comes back from a call to which the object n was lent -/
theorem Sim.lent {w' : World} {A' : Nat → Prop} {n : Int} {o : PObj} {F : List Int} (hs : Sim G E A σ a w) (hl : look σ.heap n = some o)
    (hs' : Sim G ⟨w, fun b => A b ∨ (b : Int) = n, [], F⟩ A' ⟨[], []⟩ ⟨#[], []⟩ w') : Sim G E (fun b => A' b ∧ ¬ (b : Int) = n) σ a w' := by
  have he : Ext (fun _ => False) w w' := hs'.ext.mono (fun x hx => (List.not_mem_nil hx).elim)
  have hm : ∀ b, A b → ¬ False := fun _ _ h => h
  have hA : ∀ b, A b → A' b ∧ ¬ (b : Int) = n := fun b hb => ⟨hs'.a0 b (.inl hb), fun e => (hs.own n o (look_mem hl) b e.symm).2.1 hb⟩
  have hA1 : ∀ b, A' b ∧ ¬ (b : Int) = n → A b ∨ w.heap.size ≤ b := by
    intro b ⟨hb, hn⟩
    rcases hs'.a1 b hb with (h | h) | h
    · exact .inl h
    · exact absurd h hn
    · exact .inr h
  refine ⟨hs.ext.trans he (fun _ _ h => h.elim), fun b hb => hs'.lt b hb.1, fun b hb => hA b (hs.a0 b hb), fun b hb => ?_, fun g => (hs.globs g).ext he hA hm, hs.nodup, fun m o' h => (hs.objs m o' h).ext he hA hm (fun _ _ h => h), fun m o' h b hb => ?_, hs.neg, hs.defers, hs.size, fun i p hp => ?_⟩
  · rcases hA1 b hb with h | h
    · exact hs.a1 b h
    · exact .inr (Nat.le_trans hs.ext.size h)
  · obtain ⟨q1, q2, q3⟩ := hs.own m o' h b hb
    refine ⟨Nat.lt_of_lt_of_le q1 he.size, fun hb' => ?_, q3⟩
    rcases hA1 b hb' with h | h
    · exact q2 h
    · omega
  · obtain ⟨v, hv, hr⟩ := hs.frame i p hp
    exact ⟨v, hv, hr.ext he hA hm⟩
/-- A call by contract to which the object n is lent, to be read: what comes back names no memory. -/
theorem pcall_lend {fn : FuncId} {args : List PV} {R : PV → Heap → Prop} {d : Option Tmp} {K : PState → Prop} (n : Int) (o : PObj) (hl : look σ.heap n = some o) (hc : PCalls P G fn (args.map (frz1 n o.cells)) [] R)
    (hk : ∀ res Hout, R res Hout → Hout = [] ∧ Flat res ∧ K (PState.put σ d res)) : @pcallI q P G σ d fn args ⟨K⟩ := by
  intro E A a w vals hs hsz hvals
  have hob := hs.objs n o (look_mem hl)
  have hA : ∀ b, A b → (A b ∨ (b : Int) = n) := fun b h => .inl h
  have hn : ∀ b : Nat, n = b → (A b ∨ (b : Int) = n) := fun b h => .inr h.symm
  refine (hc w (fun b => A b ∨ (b : Int) = n) (names σ.heap ++ E.F) vals ?_ (fun g => (hs.globs g).mono hA (fun _ _ _ _ h => h) (fun _ _ h => h)) (by simp) (by simp) (by simp) (by rw [List.length_map]; exact hsz) ?_).mono ?_
  · intro b hb
    rcases hb with h | h
    · exact hs.lt b h
    · exact (hs.own n o (look_mem hl) b h.symm).1
  · intro i p hp
    rw [List.getElem?_map] at hp
    cases hj : args[i]? with
    | none => rw [hj] at hp; cases hp
    | some p0 =>
      rw [hj] at hp
      cases hp
      obtain ⟨v, hv, hr⟩ := hvals i p0 hj
      exact ⟨v, hv, frz1_rep hA hn hob hr⟩
  · rintro e w' ⟨v, A', res, Hout, rfl, hR, hr, hs'⟩
    obtain ⟨rfl, hflat, hK⟩ := hk res Hout hR
    exact ⟨v, _, _, rfl, hK, (hs.lent hl hs').put d (hflat.rep hr), fun _ => keeps_of_sim hs'⟩
theorem Flat_all {cs : List PV} (h : ∀ c ∈ cs, ∃ v, c = .val v) : Flat (.agg cs) := .agg cs fun c hc => by
  obtain ⟨v, rfl⟩ := h c hc
  exact .val v
theorem Fin_cell {x : Tmp} {t : TypeId} {F : TF} {n : Int} {off : Nat} {o : PObj} {R : PV → Heap → Prop} {σ : PState} {res : PV} {H : Heap} (hF : tf P t = some F) (hx : σ.frame.getD x .junk = .ptr n off) (hl : look σ.heap n = some o)
    (hp : pload F o.cells off fun r => res = r) (h2 : Sub H σ.heap) (h3 : R res H) : Fin P [.cell x t] R .ret σ :=
  Fin_ret (show PResult P σ [.cell x t] res by
    show PRes P σ (.cell x t) res
    simp only [PRes, hF, hx, hl]
    exact hp) h2 h3
/-- Several roads come together: what follows is shown once, from a state that is less told. -/
theorem W_join {c : Code} {I : List Int} {K : Exit → PState → Prop} {nx : PState → Prop} (hnx : ∀ σ', W P G I c σ' K → nx σ') (T : PState → Prop) (hT : ∀ τ, T τ → W P G I c τ K) : ∀ σ', (∃ τ, T τ ∧ Wk σ' τ) → nx σ' :=
  fun σ' ⟨τ, h1, h2⟩ => hnx σ' (W_wk h2 (hT τ h1))
end
section
variable {P : Program} {G : Globs} {E : Amb} {A : Nat → Prop} {σ : PState} {a : Act} {w : World}
theorem Wx_bornH {I : List Int} {N d : Nat} {L : List (Nat × PV)} {n : Int} {e : TypeId} {es len : Nat} {cells : List PV} {H : Heap} (hI : n ∉ I) (hc : len * es ≤ cells.length ∧ 0 < es)
    (hL : ∀ x ∈ L, frz n cells x.2 = x.2) (hH : ∀ x ∈ H, x.1 ≠ n ∧ ∀ u ∈ x.2.cells, frz1 n cells u = u ∧ u.one = true) :
    Wx G I ⟨fr N ((d, .row n es len) :: L), (n, ⟨e, true, es, cells⟩) :: H⟩ ⟨fr N ((d, .list es (elemsOf es cells len)) :: L), H⟩ := by
  have hdel : del ((n, (⟨e, true, es, cells⟩ : PObj)) :: H) n = H := by
    simp only [del, if_true]
  have h1 := Wx.freeze_f (G := G) (I := I) (N := N) (l := (d, .row n es len) :: L) (H := (n, ⟨e, true, es, cells⟩) :: H) n (o := ⟨e, true, es, cells⟩) hI (by simp only [look, if_true]) (by
    intro x hx u hu
    rw [hdel] at hx
    obtain ⟨h2, h3⟩ := (hH x hx).2 u hu
    rw [h2]
    exact h3)
  have e1 : L.map (fun x => (x.1, frz n cells x.2)) = L := by
    conv => rhs; rw [← List.map_id L]
    exact List.map_congr_left fun x hx => by rw [hL x hx]; rfl
  have e2 : frz n cells (.row n es len) = .list es (elemsOf es cells len) := by
    simp only [frz, frz1, if_true]
    rw [if_pos hc]
  have e3 : frzH n cells ((n, ⟨e, true, es, cells⟩) :: H) = H := by
    unfold frzH
    rw [hdel]
    conv => rhs; rw [← List.map_id H]
    refine List.map_congr_left fun x hx => ?_
    have h4 : x.2.cells.map (frz1 n cells) = x.2.cells := by
      conv => rhs; rw [← List.map_id x.2.cells]
      exact List.map_congr_left fun u hu => ((hH x hx).2 u hu).1
    rw [h4]
    rfl
  rw [List.map_cons, e1] at h1
  simp only [e2, e3] at h1
  exact h1
end
/- What each walk rewrites by, as one conjunction: it keeps the texts short. -/
set_option maxRecDepth 10000 in
theorem evb : type_of% (And.intro @fr_set (And.intro @fr_getD_nil (And.intro @fr_same (And.intro @fr_other (And.intro @pguard_tt (And.intro @pguard_tf (And.intro @pguard_ft (And.intro @pguard_ff (And.intro @List.map_cons.{0, 0} (And.intro @List.map_nil.{0, 0} (And.intro @List.getD_cons_zero.{0} (And.intro @List.getD_cons_succ.{0} (And.intro @List.getD_nil.{0} (And.intro @List.getElem?_nil.{0} (And.intro @Option.join_some.{0} (And.intro @Option.join_none.{0} (And.intro @Option.map_some.{0, 0} (And.intro @Option.map_none.{0, 0} (And.intro @List.length_cons.{0} (And.intro @List.length_nil.{0} (And.intro @List.all_cons.{0} (And.intro @List.all_nil.{0} (And.intro @Bool.and_true (And.intro @Bool.true_and (And.intro @Bool.not_true (And.intro @Bool.not_false (And.intro @List.take_zero.{0} (And.intro @List.drop_zero.{0} (And.intro @List.nil_append.{0} (And.intro @List.cons_append.{0} (And.intro @List.append_nil.{0} (And.intro @Nat.zero_add (And.intro @Nat.add_zero (And.intro @Nat.mul_one (And.intro @Nat.zero_mul (And.intro @List.drop_succ_cons.{0} (And.intro @List.take_succ_cons.{0} (And.intro @List.drop_nil.{0} (And.intro @List.take_nil.{0} (And.intro @true_and (And.intro @and_true (And.intro @not_false_eq_true (And.intro @List.toList_toArray.{0} (And.intro @List.replicate_succ.{0} (And.intro @List.replicate_zero.{0} (And.intro @List.flatten_cons.{0} (And.intro @List.flatten_nil.{0} (And.intro @Int.toNat_natCast (And.intro @Int.toNat_zero (And.intro @Int.toNat_one (And.intro @bl_mk (And.intro @bl_lit (And.intro @wr64 (And.intro @toNat_add1 (And.intro @toNat_sub1 (And.intro @map_getD (And.intro @Int.natCast_nonneg (And.intro @List.length_map.{0, 0} (And.intro @Bool.not_not (And.intro @List.not_mem_nil.{0} (And.intro @Option.some.injEq.{0} (And.intro @Int.cast_ofNat_Int (And.intro @Int.natCast_zero (And.intro @List.size_toArray.{0} (And.intro @decide_true (And.intro @decide_false (And.intro @List.length_take.{0} (And.intro @List.length_append.{0} @List.length_drop.{0})))))))))))))))))))))))))))))))))))))))))))))))))))))))))))))))))))) := (And.intro @fr_set (And.intro @fr_getD_nil (And.intro @fr_same (And.intro @fr_other (And.intro @pguard_tt (And.intro @pguard_tf (And.intro @pguard_ft (And.intro @pguard_ff (And.intro @List.map_cons.{0, 0} (And.intro @List.map_nil.{0, 0} (And.intro @List.getD_cons_zero.{0} (And.intro @List.getD_cons_succ.{0} (And.intro @List.getD_nil.{0} (And.intro @List.getElem?_nil.{0} (And.intro @Option.join_some.{0} (And.intro @Option.join_none.{0} (And.intro @Option.map_some.{0, 0} (And.intro @Option.map_none.{0, 0} (And.intro @List.length_cons.{0} (And.intro @List.length_nil.{0} (And.intro @List.all_cons.{0} (And.intro @List.all_nil.{0} (And.intro @Bool.and_true (And.intro @Bool.true_and (And.intro @Bool.not_true (And.intro @Bool.not_false (And.intro @List.take_zero.{0} (And.intro @List.drop_zero.{0} (And.intro @List.nil_append.{0} (And.intro @List.cons_append.{0} (And.intro @List.append_nil.{0} (And.intro @Nat.zero_add (And.intro @Nat.add_zero (And.intro @Nat.mul_one (And.intro @Nat.zero_mul (And.intro @List.drop_succ_cons.{0} (And.intro @List.take_succ_cons.{0} (And.intro @List.drop_nil.{0} (And.intro @List.take_nil.{0} (And.intro @true_and (And.intro @and_true (And.intro @not_false_eq_true (And.intro @List.toList_toArray.{0} (And.intro @List.replicate_succ.{0} (And.intro @List.replicate_zero.{0} (And.intro @List.flatten_cons.{0} (And.intro @List.flatten_nil.{0} (And.intro @Int.toNat_natCast (And.intro @Int.toNat_zero (And.intro @Int.toNat_one (And.intro @bl_mk (And.intro @bl_lit (And.intro @wr64 (And.intro @toNat_add1 (And.intro @toNat_sub1 (And.intro @map_getD (And.intro @Int.natCast_nonneg (And.intro @List.length_map.{0, 0} (And.intro @Bool.not_not (And.intro @List.not_mem_nil.{0} (And.intro @Option.some.injEq.{0} (And.intro @Int.cast_ofNat_Int (And.intro @Int.natCast_zero (And.intro @List.size_toArray.{0} (And.intro @decide_true (And.intro @decide_false (And.intro @List.length_take.{0} (And.intro @List.length_append.{0} @List.length_drop.{0}))))))))))))))))))))))))))))))))))))))))))))))))))))))))))))))))))))
set_option maxRecDepth 10000 in
theorem evd : type_of% (And.intro @opnd.eq_1 (And.intro @opnd.eq_2 (And.intro @opnd.eq_3 (And.intro @opnd.eq_4 (And.intro @PState.put.eq_1 (And.intro @PState.put.eq_2 (And.intro @layFrom.eq_1 (And.intro @layFrom.eq_2 (And.intro @pldop.eq_1 (And.intro @pload.eq_1 (And.intro @pfaddr.eq_1 (And.intro @parr.eq_1 (And.intro @pbuild.eq_1 (And.intro @pfill.eq_1 (And.intro @pfill.eq_2 (And.intro @palloc.eq_1 (And.intro @pbox.eq_1 (And.intro @pbuildS.eq_1 (And.intro @pappend.eq_1 (And.intro @pcopy.eq_1 (And.intro @pmlook.eq_1 (And.intro @pmupd.eq_1 (And.intro @pmmake.eq_1 (And.intro @pmdel.eq_1 (And.intro @pmlen.eq_1 (And.intro @vcells.eq_1 (And.intro @look.eq_1 (And.intro @look.eq_2 (And.intro @upd.eq_1 (And.intro @upd.eq_2 (And.intro @del.eq_1 (And.intro @del.eq_2 (And.intro @names.eq_1 @times.eq_1))))))))))))))))))))))))))))))))) := (And.intro @opnd.eq_1 (And.intro @opnd.eq_2 (And.intro @opnd.eq_3 (And.intro @opnd.eq_4 (And.intro @PState.put.eq_1 (And.intro @PState.put.eq_2 (And.intro @layFrom.eq_1 (And.intro @layFrom.eq_2 (And.intro @pldop.eq_1 (And.intro @pload.eq_1 (And.intro @pfaddr.eq_1 (And.intro @parr.eq_1 (And.intro @pbuild.eq_1 (And.intro @pfill.eq_1 (And.intro @pfill.eq_2 (And.intro @palloc.eq_1 (And.intro @pbox.eq_1 (And.intro @pbuildS.eq_1 (And.intro @pappend.eq_1 (And.intro @pcopy.eq_1 (And.intro @pmlook.eq_1 (And.intro @pmupd.eq_1 (And.intro @pmmake.eq_1 (And.intro @pmdel.eq_1 (And.intro @pmlen.eq_1 (And.intro @vcells.eq_1 (And.intro @look.eq_1 (And.intro @look.eq_2 (And.intro @upd.eq_1 (And.intro @upd.eq_2 (And.intro @del.eq_1 (And.intro @del.eq_2 (And.intro @names.eq_1 @times.eq_1)))))))))))))))))))))))))))))))))
theorem fmb : type_of% (And.intro @List.forall_mem_cons.{0} (And.intro @List.not_mem_nil.{0} (And.intro @false_implies (And.intro @implies_true.{1} (And.intro @implies_true.{0} (And.intro @and_true (And.intro @true_and @ne_eq.{1}))))))) := (And.intro @List.forall_mem_cons.{0} (And.intro @List.not_mem_nil.{0} (And.intro @false_implies (And.intro @implies_true.{1} (And.intro @implies_true.{0} (And.intro @and_true (And.intro @true_and @ne_eq.{1})))))))
theorem prb : type_of% (And.intro @prune_cons (And.intro @prune_nil (And.intro @cond_true.{1} @cond_false.{1}))) := (And.intro @prune_cons (And.intro @prune_nil (And.intro @cond_true.{1} @cond_false.{1})))
theorem cob : type_of% (And.intro @not_true_eq_false (And.intro @not_false_eq_true (And.intro @List.getD_cons_zero.{0} (And.intro @List.getD_cons_succ.{0} (And.intro @fr_getD_cons @fr_getD_nil))))) := (And.intro @not_true_eq_false (And.intro @not_false_eq_true (And.intro @List.getD_cons_zero.{0} (And.intro @List.getD_cons_succ.{0} (And.intro @fr_getD_cons @fr_getD_nil)))))
theorem wkb : type_of% (And.intro @List.forall_mem_cons.{0} (And.intro @List.not_mem_nil.{0} (And.intro @false_implies (And.intro @implies_true.{1} (And.intro @implies_true.{0} (And.intro @and_true (And.intro @true_and (And.intro @and_self (And.intro @fr_getD_cons (And.intro @fr_getD_nil (And.intro @Int.natCast_add (And.intro @Int.cast_ofNat_Int @Int.natCast_zero)))))))))))) := (And.intro @List.forall_mem_cons.{0} (And.intro @List.not_mem_nil.{0} (And.intro @false_implies (And.intro @implies_true.{1} (And.intro @implies_true.{0} (And.intro @and_true (And.intro @true_and (And.intro @and_self (And.intro @fr_getD_cons (And.intro @fr_getD_nil (And.intro @Int.natCast_add (And.intro @Int.cast_ofNat_Int @Int.natCast_zero))))))))))))
set_option maxRecDepth 10000 in
theorem hcb : type_of% (And.intro @decide_eq_true_eq (And.intro @decide_eq_false_iff_not (And.intro @and_true (And.intro @true_and (And.intro @Bool.not_eq_true (And.intro @Bool.not_eq_false (And.intro @bne_eq_false_iff_eq.{0} (And.intro @beq_eq_false_iff_ne.{0} (And.intro @Decidable.not_not (And.intro @Bool.not_eq_eq_eq_not (And.intro @Bool.not_true (And.intro @Bool.not_false (And.intro @Bool.and_eq_true (And.intro @Bool.or_eq_true (And.intro @Int.natCast_inj (And.intro @Bool.and_eq_false_iff (And.intro @Bool.or_eq_false_iff (And.intro @false_implies (And.intro @true_implies (And.intro @bne_iff_ne.{0} @beq_iff_eq.{0})))))))))))))))))))) := (And.intro @decide_eq_true_eq (And.intro @decide_eq_false_iff_not (And.intro @and_true (And.intro @true_and (And.intro @Bool.not_eq_true (And.intro @Bool.not_eq_false (And.intro @bne_eq_false_iff_eq.{0} (And.intro @beq_eq_false_iff_ne.{0} (And.intro @Decidable.not_not (And.intro @Bool.not_eq_eq_eq_not (And.intro @Bool.not_true (And.intro @Bool.not_false (And.intro @Bool.and_eq_true (And.intro @Bool.or_eq_true (And.intro @Int.natCast_inj (And.intro @Bool.and_eq_false_iff (And.intro @Bool.or_eq_false_iff (And.intro @false_implies (And.intro @true_implies (And.intro @bne_iff_ne.{0} @beq_iff_eq.{0}))))))))))))))))))))
set_option maxRecDepth 10000 in
theorem eve : type_of% (And.intro @pbuiltin.eq_def (And.intro @pnck.eq_def (And.intro @pbin.eq_def (And.intro @pun.eq_def (And.intro @ppick.eq_def (And.intro @plen.eq_def (And.intro @piaddr.eq_def (And.intro @pindex.eq_def (And.intro @pfield.eq_def (And.intro @pslice.eq_def (And.intro @pconv.eq_def (And.intro @pextract.eq_def (And.intro @pmm.eq_def (And.intro @pageq.eq_def (And.intro @pmakes.eq_def (And.intro @pstore.eq_def (And.intro @pbytes.eq_def (And.intro @pmark.eq_def (And.intro @pusd.eq_def (And.intro @pust.eq_def (And.intro @pnile.eq_def (And.intro @pcap.eq_def (And.intro @pgrow.eq_def (And.intro @pkey.eq_def @psrc.eq_def)))))))))))))))))))))))) := (And.intro @pbuiltin.eq_def (And.intro @pnck.eq_def (And.intro @pbin.eq_def (And.intro @pun.eq_def (And.intro @ppick.eq_def (And.intro @plen.eq_def (And.intro @piaddr.eq_def (And.intro @pindex.eq_def (And.intro @pfield.eq_def (And.intro @pslice.eq_def (And.intro @pconv.eq_def (And.intro @pextract.eq_def (And.intro @pmm.eq_def (And.intro @pageq.eq_def (And.intro @pmakes.eq_def (And.intro @pstore.eq_def (And.intro @pbytes.eq_def (And.intro @pmark.eq_def (And.intro @pusd.eq_def (And.intro @pust.eq_def (And.intro @pnile.eq_def (And.intro @pcap.eq_def (And.intro @pgrow.eq_def (And.intro @pkey.eq_def @psrc.eq_def))))))))))))))))))))))))
end Go.PM

namespace Go.PM
open Go.RowKit
section
variable {P : Program} {G : Globs} {I : List Int} {K : Exit → PState → Prop} {σ : PState} {x y : Code} {o : Operand}
/-- A branch, once the condition is known. -/
def condG (p : PV) [h : Two] : Prop :=
  match p with
  | .val (.bool t) => @pguard t true h
  | _ => False
theorem wc (h : @condG (opnd G σ.frame o) ⟨W P G I x σ K, W P G I y σ K⟩) : W P G I (.cond o x y) σ K := by
  unfold condG at h
  split at h
  · rename_i t ht
    exact W_cond ht h.1 h.2
  · exact h.elim
/-- A region in the text's order: only the slots of the mask are kept. -/
theorem wr {N id : Nat} {l : List (Nat × PV)} {H : Heap} {ops : List Oper} (m : Nat) (h : WL P G I ops ops ⟨fr N (prune m l), H⟩ (K .normal)) : W P G I (.region id ops.toArray false) ⟨fr N l, H⟩ K := W_prune m (W_region_l h)
/-- A region that draws its order. -/
theorem wd {N id : Nat} {l : List (Nat × PV)} {H : Heap} {ops : List Oper} (m f : Nat) (L : Plan) (hp : planAll P ops f L = true) (h : popsD P G I (ops.map (·.dst)) ops L ⟨fr N (prune m l), H⟩ (K .normal)) : W P G I (.region id ops.toArray true) ⟨fr N l, H⟩ K := W_prune m (W_region_draw f L hp h)
end
section
variable {P : Program} {G : Globs} {σ : PState} {fn : FuncId} {args : List PV} {d : Option Tmp} {K : PState → Prop} {q : Bool}
/-- A call of a function with one result and no objects. -/
theorem pe {r : PV} (hc : PCalls P G fn args [] (fun res H => res = r ∧ H = [])) (hk : Ev (K (PState.put ⟨σ.frame, [] ++ σ.heap⟩ d r))) : @pcallI q P G σ d fn args ⟨K⟩ := by
  refine pcall_k hc ?_
  rintro _ _ ⟨rfl, rfl⟩ -
  exact hk
end
theorem pg {b want : Bool} {x y : Prop} (hx : b = want → Ev x) (hy : b = (!want) → Ev y) : @pguard b want ⟨x, y⟩ := ⟨hx, hy⟩
theorem pf {l : List Int} {k : Int → Prop} {C : Prop} (hc : C) (h : ∀ n : Int, (C ∧ ∀ x ∈ l, (n = x) = False ∧ (x = n) = False) → k n) : @pfresh l ⟨k⟩ := pfresh_k hc h
theorem pm {l : List Int} {im : Prop} {k : Int → Prop} {C : Prop} (hc : C) (h : ∀ n : Int, (C ∧ ∀ x ∈ l, (n = x) = False ∧ (x = n) = False) → k n) : @pborn l ⟨im, k⟩ := pborn_mu hc h
/- What each walk rewrites by. -/
set_option maxRecDepth 10000 in
theorem eva : (∀ (k : IntKind) (n : Int), constPV (.int k n) = .val (.int k n)) ∧ (∀ (k : IntKind) (n : Int), Value.oneCell' (.int k n) = true) ∧ (∀ (b : Bool), constPV (.bool b) = .val (.bool b)) ∧ (∀ (b : Bool), Value.oneCell' (.bool b) = true) ∧ (∀ (s : ByteArray), constPV (.string s) = .val (.string s)) ∧ (∀ (s : ByteArray), Value.oneCell' (.string s) = true) ∧ (∀ (a : Option Addr) (l c : Nat), constPV (.slice a l c) = .val (.slice a l c)) ∧ (∀ (a : Option Addr) (l c : Nat), Value.oneCell' (.slice a l c) = true) ∧ (∀ (a : Option Addr), constPV (.pointer a) = .val (.pointer a)) ∧ (∀ (a : Option Addr), Value.oneCell' (.pointer a) = true) ∧ (∀ (a : Option Nat), constPV (.map a) = .val (.map a)) ∧ (∀ (a : Option Nat), Value.oneCell' (.map a) = true) ∧ (constPV (.nilFunc ) = .val (.nilFunc )) ∧ (Value.oneCell' (.nilFunc ) = true) ∧ (constPV (.nilIface ) = .val (.nilIface )) ∧ (Value.oneCell' (.nilIface ) = true) ∧ (∀ (a : Option Nat), constPV (.chan a) = .val (.chan a)) ∧ (∀ (a : Option Nat), Value.oneCell' (.chan a) = true) ∧ (∀ (k : FloatKind) (n : Nat), constPV (.float k n) = .val (.float k n)) ∧ (∀ (k : FloatKind) (n : Nat), Value.oneCell' (.float k n) = true) ∧ (∀ (f : Fn) (x y : Array Value), constPV (.func f x y) = .val (.func f x y)) ∧ (∀ (f : Fn) (x y : Array Value), Value.oneCell' (.func f x y) = true) ∧ (∀ (t : TypeId) (v : Value), constPV (.iface t v) = .val (.iface t v)) ∧ (∀ (t : TypeId) (v : Value), Value.oneCell' (.iface t v) = true) ∧ (∀ (xs : Array Value), constPV (.tuple xs) = .val (.tuple xs)) ∧ (∀ cs : Array Value, constPV (.agg cs) = .agg (cs.toList.map .val)) := by
  refine ⟨?_, ?_, ?_, ?_, ?_, ?_, ?_, ?_, ?_, ?_, ?_, ?_, ?_, ?_, ?_, ?_, ?_, ?_, ?_, ?_, ?_, ?_, ?_, ?_, ?_, ?_⟩ <;> intros <;> rfl
set_option maxRecDepth 10000 in
theorem ev : type_of% (And.intro evb (And.intro evd (And.intro eve (And.intro eva (And.intro prb (And.intro @ne_eq.{1} (And.intro @forall_const.{1} (And.intro @exists_and_left.{1} (And.intro @exists_eq_left'.{1} (And.intro @eq_self.{1} (And.intro @List.set.eq_1.{0} (And.intro @List.set.eq_2.{0} (And.intro @List.set.eq_3.{0} (And.intro @pbound.eq_1 (And.intro @pbound.eq_2 (And.intro @condG.eq_1 (And.intro @pelems.eq_1 (And.intro @pelems.eq_2 (And.intro @pelems.eq_3 (And.intro @pelems.eq_4 (And.intro @pelems.eq_5 (And.intro @peqs.eq_1 (And.intro @peqs.eq_2 (And.intro @peq1.eq_1 (And.intro @peq1.eq_2 (And.intro @peq1.eq_3 (And.intro @pkeys.eq_1 (And.intro @pkeys.eq_2 (And.intro @pkeyt.eq_1 @pkeyt.eq_2))))))))))))))))))))))))))))) := (And.intro evb (And.intro evd (And.intro eve (And.intro eva (And.intro prb (And.intro @ne_eq.{1} (And.intro @forall_const.{1} (And.intro @exists_and_left.{1} (And.intro @exists_eq_left'.{1} (And.intro @eq_self.{1} (And.intro @List.set.eq_1.{0} (And.intro @List.set.eq_2.{0} (And.intro @List.set.eq_3.{0} (And.intro @pbound.eq_1 (And.intro @pbound.eq_2 (And.intro @condG.eq_1 (And.intro @pelems.eq_1 (And.intro @pelems.eq_2 (And.intro @pelems.eq_3 (And.intro @pelems.eq_4 (And.intro @pelems.eq_5 (And.intro @peqs.eq_1 (And.intro @peqs.eq_2 (And.intro @peq1.eq_1 (And.intro @peq1.eq_2 (And.intro @peq1.eq_3 (And.intro @pkeys.eq_1 (And.intro @pkeys.eq_2 (And.intro @pkeyt.eq_1 @pkeyt.eq_2)))))))))))))))))))))))))))))
theorem evp : type_of% (And.intro @popG_eq (And.intro @pop.eq_1 (And.intro @List.getElem?_map.{0, 0} (And.intro @List.getElem?_cons_zero.{0} @List.getElem?_cons_succ.{0})))) := (And.intro @popG_eq (And.intro @pop.eq_1 (And.intro @List.getElem?_map.{0, 0} (And.intro @List.getElem?_cons_zero.{0} @List.getElem?_cons_succ.{0}))))
set_option maxRecDepth 10000 in
theorem bir : type_of% (And.intro @List.map_cons.{0, 0} (And.intro @List.map_nil.{0, 0} (And.intro @List.take_succ_cons.{0} (And.intro @List.take_zero.{0} (And.intro @List.range_succ (And.intro @List.range_zero (And.intro @List.nil_append.{0} (And.intro @List.cons_append.{0} (And.intro @List.map_append.{0, 0} (And.intro @List.drop_succ_cons.{0} (And.intro @List.drop_zero.{0} (And.intro @Nat.zero_mul @Nat.one_mul)))))))))))) :=
  (And.intro @List.map_cons.{0, 0} (And.intro @List.map_nil.{0, 0} (And.intro @List.take_succ_cons.{0} (And.intro @List.take_zero.{0} (And.intro @List.range_succ (And.intro @List.range_zero (And.intro @List.nil_append.{0} (And.intro @List.cons_append.{0} (And.intro @List.map_append.{0, 0} (And.intro @List.drop_succ_cons.{0} (And.intro @List.drop_zero.{0} (And.intro @Nat.zero_mul @Nat.one_mul))))))))))))
/-- How a piece of code may end. -/
theorem kks : type_of% (And.intro @seqK.eq_1 (And.intro @blockK.eq_1 @scopeK.eq_1)) ∧ (∀ next K i σ, seqK next K (.exit i) σ = K (.exit i) σ) ∧ (∀ next K σ, seqK next K .ret σ = K .ret σ) ∧ (∀ next K i σ, seqK next K (.goto i) σ = K (.goto i) σ) ∧
    (∀ i K σ, blockK i K .normal σ = K .normal σ) ∧ (∀ i K σ, blockK i K .ret σ = K .ret σ) ∧ (∀ i K j σ, blockK i K (.goto j) σ = K (.goto j) σ) ∧ (∀ K σ, scopeK K .normal σ = K .normal σ) ∧ (∀ K σ, scopeK K .ret σ = K .ret σ) ∧ (∀ K j σ, scopeK K (.exit j) σ = K (.exit j) σ) :=
  ⟨And.intro @seqK.eq_1 (And.intro @blockK.eq_1 @scopeK.eq_1), by intros; rfl, by intros; rfl, by intros; rfl, by intros; rfl, by intros; rfl, by intros; rfl, by intros; rfl, by intros; rfl, by intros; rfl⟩
end Go.PM

namespace Go.PM
open Go.Proofs
theorem Tryd.tf0 : tf Tryd.prog 0 = some ⟨.other, 1, 0, false, some (.tuple #[])⟩ := by kernel_rfl
theorem Tryd.tf1 : tf Tryd.prog 1 = some ⟨.func, 1, 8, false, some (.nilFunc)⟩ := by kernel_rfl
theorem Tryd.tf2 : tf Tryd.prog 2 = some ⟨.int .i64, 1, 8, false, some (.int .i64 0)⟩ := by kernel_rfl
theorem Tryd.tf3 : tf Tryd.prog 3 = some ⟨.int .i64, 1, 8, false, some (.int .i64 0)⟩ := by kernel_rfl
theorem Tryd.tf4 : tf Tryd.prog 4 = some ⟨.bool, 1, 1, false, some (.bool false)⟩ := by kernel_rfl
theorem Tryd.tf5 : tf Tryd.prog 5 = some ⟨.int .u8, 1, 1, false, some (.int .u8 0)⟩ := by kernel_rfl
theorem Tryd.tf9 : tf Tryd.prog 9 = some ⟨.string, 1, 16, false, some (.string ⟨#[]⟩)⟩ := by kernel_rfl
theorem Tryd.tf20 : tf Tryd.prog 20 = some ⟨.other, 1, 16, false, some (.nilIface)⟩ := by kernel_rfl
theorem Tryd.tf22 : tf Tryd.prog 22 = some ⟨.slice 3 1 8, 1, 24, false, some (.slice none 0 0)⟩ := by kernel_rfl
theorem Tryd.tf24 : tf Tryd.prog 24 = some ⟨.slice 9 1 16, 1, 24, false, some (.slice none 0 0)⟩ := by kernel_rfl
theorem Tryd.tf27 : tf Tryd.prog 27 = some ⟨.slice 5 1 1, 1, 24, false, some (.slice none 0 0)⟩ := by kernel_rfl
theorem Tryd.tf28 : tf Tryd.prog 28 = some ⟨.int .i64, 1, 8, false, some (.int .i64 0)⟩ := by kernel_rfl
theorem Tryd.tf29 : tf Tryd.prog 29 = some ⟨.other, 1, 0, false, some (.tuple #[.slice none 0 0, .int .i64 0])⟩ := by kernel_rfl
theorem Tryd.tf32 : tf Tryd.prog 32 = some ⟨.struct [(0, 1, false), (1, 1, false)], 2, 24, true, some (.agg #[.string ⟨#[]⟩, .int .i64 0])⟩ := by kernel_rfl
theorem Tryd.tf34 : tf Tryd.prog 34 = some ⟨.func, 1, 8, false, some (.nilFunc)⟩ := by kernel_rfl
theorem Tryd.tf37 : tf Tryd.prog 37 = some ⟨.array 16 5 1 false, 16, 16, true, some (.agg #[.int .u8 0, .int .u8 0, .int .u8 0, .int .u8 0, .int .u8 0, .int .u8 0, .int .u8 0, .int .u8 0, .int .u8 0, .int .u8 0, .int .u8 0, .int .u8 0, .int .u8 0, .int .u8 0, .int .u8 0, .int .u8 0])⟩ := by kernel_rfl
theorem Tryd.teq37 : teq Tryd.prog 37 = some (List.replicate 16 (.int .u8)) := by kernel_rfl
theorem Tryd.tf39 : tf Tryd.prog 39 = some ⟨.struct [(0, 16, true), (16, 1, false)], 17, 24, true, some (.agg #[.int .u8 0, .int .u8 0, .int .u8 0, .int .u8 0, .int .u8 0, .int .u8 0, .int .u8 0, .int .u8 0, .int .u8 0, .int .u8 0, .int .u8 0, .int .u8 0, .int .u8 0, .int .u8 0, .int .u8 0, .int .u8 0, .int .i64 0])⟩ := by kernel_rfl
theorem Tryd.tf40 : tf Tryd.prog 40 = some ⟨.other, 1, 0, false, some (.tuple #[.agg #[.int .u8 0, .int .u8 0, .int .u8 0, .int .u8 0, .int .u8 0, .int .u8 0, .int .u8 0, .int .u8 0, .int .u8 0, .int .u8 0, .int .u8 0, .int .u8 0, .int .u8 0, .int .u8 0, .int .u8 0, .int .u8 0, .int .i64 0], .int .i64 0])⟩ := by kernel_rfl
theorem Tryd.tf42 : tf Tryd.prog 42 = some ⟨.other, 1, 0, false, some (.tuple #[.slice none 0 0, .int .i64 0])⟩ := by kernel_rfl
theorem Tryd.tf48 : tf Tryd.prog 48 = some ⟨.slice 52 3 40, 1, 24, false, some (.slice none 0 0)⟩ := by kernel_rfl
theorem Tryd.tf52 : tf Tryd.prog 52 = some ⟨.struct [(0, 1, false), (1, 1, false), (2, 1, false)], 3, 40, true, some (.agg #[.int .i64 0, .int .i64 0, .slice none 0 0])⟩ := by kernel_rfl
theorem Tryd.tf58 : tf Tryd.prog 58 = some ⟨.slice 37 16 16, 1, 24, false, some (.slice none 0 0)⟩ := by kernel_rfl
theorem Tryd.tf61 : tf Tryd.prog 61 = some ⟨.other, 1, 0, false, some (.tuple #[.string ⟨#[]⟩, .int .i64 0])⟩ := by kernel_rfl
theorem Tryd.tf66 : tf Tryd.prog 66 = some ⟨.other, 1, 0, false, some (.tuple #[.agg #[.int .u8 0, .int .u8 0, .int .u8 0, .int .u8 0, .int .u8 0, .int .u8 0, .int .u8 0, .int .u8 0, .int .u8 0, .int .u8 0, .int .u8 0, .int .u8 0, .int .u8 0, .int .u8 0, .int .u8 0, .int .u8 0], .int .i64 0])⟩ := by kernel_rfl
theorem Tryd.tf68 : tf Tryd.prog 68 = some ⟨.other, 1, 0, false, some (.tuple #[.string ⟨#[]⟩, .int .i64 0, .int .i64 0])⟩ := by kernel_rfl
theorem Tryd.tf70 : tf Tryd.prog 70 = some ⟨.other, 1, 0, false, some (.tuple #[.int .i64 0, .int .i64 0])⟩ := by kernel_rfl
theorem Tryd.tf72 : tf Tryd.prog 72 = some ⟨.other, 1, 0, false, some (.tuple #[.slice none 0 0, .slice none 0 0, .int .i64 0])⟩ := by kernel_rfl
theorem Tryd.tf74 : tf Tryd.prog 74 = some ⟨.int .u32, 1, 4, false, some (.int .u32 0)⟩ := by kernel_rfl
theorem Tryd.tf75 : tf Tryd.prog 75 = some ⟨.array 8 74 1 false, 8, 32, true, some (.agg #[.int .u32 0, .int .u32 0, .int .u32 0, .int .u32 0, .int .u32 0, .int .u32 0, .int .u32 0, .int .u32 0])⟩ := by kernel_rfl
theorem Tryd.tf76 : tf Tryd.prog 76 = some ⟨.array 64 5 1 false, 64, 64, true, some (.agg #[.int .u8 0, .int .u8 0, .int .u8 0, .int .u8 0, .int .u8 0, .int .u8 0, .int .u8 0, .int .u8 0, .int .u8 0, .int .u8 0, .int .u8 0, .int .u8 0, .int .u8 0, .int .u8 0, .int .u8 0, .int .u8 0, .int .u8 0, .int .u8 0, .int .u8 0, .int .u8 0, .int .u8 0, .int .u8 0, .int .u8 0, .int .u8 0, .int .u8 0, .int .u8 0, .int .u8 0, .int .u8 0, .int .u8 0, .int .u8 0, .int .u8 0, .int .u8 0, .int .u8 0, .int .u8 0, .int .u8 0, .int .u8 0, .int .u8 0, .int .u8 0, .int .u8 0, .int .u8 0, .int .u8 0, .int .u8 0, .int .u8 0, .int .u8 0, .int .u8 0, .int .u8 0, .int .u8 0, .int .u8 0, .int .u8 0, .int .u8 0, .int .u8 0, .int .u8 0, .int .u8 0, .int .u8 0, .int .u8 0, .int .u8 0, .int .u8 0, .int .u8 0, .int .u8 0, .int .u8 0, .int .u8 0, .int .u8 0, .int .u8 0, .int .u8 0])⟩ := by kernel_rfl
theorem Tryd.tf77 : tf Tryd.prog 77 = some ⟨.int .u64, 1, 8, false, some (.int .u64 0)⟩ := by kernel_rfl
theorem Tryd.tf79 : tf Tryd.prog 79 = some ⟨.struct [(0, 8, true), (8, 64, true), (72, 1, false)], 73, 104, true, some (.agg #[.int .u32 0, .int .u32 0, .int .u32 0, .int .u32 0, .int .u32 0, .int .u32 0, .int .u32 0, .int .u32 0, .int .u8 0, .int .u8 0, .int .u8 0, .int .u8 0, .int .u8 0, .int .u8 0, .int .u8 0, .int .u8 0, .int .u8 0, .int .u8 0, .int .u8 0, .int .u8 0, .int .u8 0, .int .u8 0, .int .u8 0, .int .u8 0, .int .u8 0, .int .u8 0, .int .u8 0, .int .u8 0, .int .u8 0, .int .u8 0, .int .u8 0, .int .u8 0, .int .u8 0, .int .u8 0, .int .u8 0, .int .u8 0, .int .u8 0, .int .u8 0, .int .u8 0, .int .u8 0, .int .u8 0, .int .u8 0, .int .u8 0, .int .u8 0, .int .u8 0, .int .u8 0, .int .u8 0, .int .u8 0, .int .u8 0, .int .u8 0, .int .u8 0, .int .u8 0, .int .u8 0, .int .u8 0, .int .u8 0, .int .u8 0, .int .u8 0, .int .u8 0, .int .u8 0, .int .u8 0, .int .u8 0, .int .u8 0, .int .u8 0, .int .u8 0, .int .u8 0, .int .u8 0, .int .u8 0, .int .u8 0, .int .u8 0, .int .u8 0, .int .u8 0, .int .u8 0, .int .u64 0])⟩ := by kernel_rfl
theorem Tryd.tf82 : tf Tryd.prog 82 = some ⟨.array 32 5 1 false, 32, 32, true, some (.agg #[.int .u8 0, .int .u8 0, .int .u8 0, .int .u8 0, .int .u8 0, .int .u8 0, .int .u8 0, .int .u8 0, .int .u8 0, .int .u8 0, .int .u8 0, .int .u8 0, .int .u8 0, .int .u8 0, .int .u8 0, .int .u8 0, .int .u8 0, .int .u8 0, .int .u8 0, .int .u8 0, .int .u8 0, .int .u8 0, .int .u8 0, .int .u8 0, .int .u8 0, .int .u8 0, .int .u8 0, .int .u8 0, .int .u8 0, .int .u8 0, .int .u8 0, .int .u8 0])⟩ := by kernel_rfl
theorem Tryd.tf84 : tf Tryd.prog 84 = some ⟨.slice 22 1 24, 1, 24, false, some (.slice none 0 0)⟩ := by kernel_rfl
theorem Tryd.tf85 : tf Tryd.prog 85 = some ⟨.pointer 52, 1, 8, false, some (.pointer none)⟩ := by kernel_rfl
theorem Tryd.tf87 : tf Tryd.prog 87 = some ⟨.slice 27 1 24, 1, 24, false, some (.slice none 0 0)⟩ := by kernel_rfl
theorem Tryd.tf90 : tf Tryd.prog 90 = some ⟨.func, 1, 8, false, some (.nilFunc)⟩ := by kernel_rfl
theorem Tryd.tf92 : tf Tryd.prog 92 = some ⟨.pointer 94, 1, 8, false, some (.pointer none)⟩ := by kernel_rfl
theorem Tryd.tf94 : tf Tryd.prog 94 = some ⟨.struct [(0, 1, false), (1, 1, false)], 2, 32, true, some (.agg #[.pointer none, .slice none 0 0])⟩ := by kernel_rfl
theorem Tryd.tf96 : tf Tryd.prog 96 = some ⟨.other, 1, 16, false, some (.nilIface)⟩ := by kernel_rfl
theorem Tryd.tf97 : tf Tryd.prog 97 = some ⟨.other, 1, 0, false, some (.tuple #[.int .i64 0, .nilIface])⟩ := by kernel_rfl
theorem Tryd.tf106 : tf Tryd.prog 106 = some ⟨.other, 1, 0, false, some (.tuple #[.int .i64 0, .int .i64 0, .int .i64 0])⟩ := by kernel_rfl
theorem Tryd.tf109 : tf Tryd.prog 109 = some ⟨.func, 1, 8, false, some (.nilFunc)⟩ := by kernel_rfl
theorem Tryd.tf112 : tf Tryd.prog 112 = some ⟨.other, 1, 0, false, some (.tuple #[.slice none 0 0, .int .i64 0, .int .i64 0])⟩ := by kernel_rfl
theorem Tryd.tf114 : tf Tryd.prog 114 = some ⟨.func, 1, 8, false, some (.nilFunc)⟩ := by kernel_rfl
theorem Tryd.tf115 : tf Tryd.prog 115 = some ⟨.other, 1, 0, false, some (.tuple #[.slice none 0 0, .int .i64 0, .int .i64 0])⟩ := by kernel_rfl
theorem Tryd.tf118 : tf Tryd.prog 118 = some ⟨.map 120 37, 1, 8, false, some (.map none)⟩ := by kernel_rfl
theorem Tryd.tf119 : tf Tryd.prog 119 = some ⟨.other, 1, 0, false, some (.tuple #[.agg #[.int .u8 0, .int .u8 0, .int .u8 0, .int .u8 0, .int .u8 0, .int .u8 0, .int .u8 0, .int .u8 0, .int .u8 0, .int .u8 0, .int .u8 0, .int .u8 0, .int .u8 0, .int .u8 0, .int .u8 0, .int .u8 0], .bool false])⟩ := by kernel_rfl
theorem Tryd.tf120 : tf Tryd.prog 120 = some ⟨.array 2 3 1 false, 2, 16, true, some (.agg #[.int .i64 0, .int .i64 0])⟩ := by kernel_rfl
theorem Tryd.tf121 : tf Tryd.prog 121 = some ⟨.array 68 3 1 false, 68, 544, true, some (.agg #[.int .i64 0, .int .i64 0, .int .i64 0, .int .i64 0, .int .i64 0, .int .i64 0, .int .i64 0, .int .i64 0, .int .i64 0, .int .i64 0, .int .i64 0, .int .i64 0, .int .i64 0, .int .i64 0, .int .i64 0, .int .i64 0, .int .i64 0, .int .i64 0, .int .i64 0, .int .i64 0, .int .i64 0, .int .i64 0, .int .i64 0, .int .i64 0, .int .i64 0, .int .i64 0, .int .i64 0, .int .i64 0, .int .i64 0, .int .i64 0, .int .i64 0, .int .i64 0, .int .i64 0, .int .i64 0, .int .i64 0, .int .i64 0, .int .i64 0, .int .i64 0, .int .i64 0, .int .i64 0, .int .i64 0, .int .i64 0, .int .i64 0, .int .i64 0, .int .i64 0, .int .i64 0, .int .i64 0, .int .i64 0, .int .i64 0, .int .i64 0, .int .i64 0, .int .i64 0, .int .i64 0, .int .i64 0, .int .i64 0, .int .i64 0, .int .i64 0, .int .i64 0, .int .i64 0, .int .i64 0, .int .i64 0, .int .i64 0, .int .i64 0, .int .i64 0, .int .i64 0, .int .i64 0, .int .i64 0, .int .i64 0])⟩ := by kernel_rfl
theorem Tryd.tf124 : tf Tryd.prog 124 = some ⟨.pointer 5, 1, 8, false, some (.pointer none)⟩ := by kernel_rfl
theorem Tryd.tf131 : tf Tryd.prog 131 = some ⟨.int .u64, 1, 8, false, some (.int .u64 0)⟩ := by kernel_rfl
theorem Tryd.tf132 : tf Tryd.prog 132 = some ⟨.array 64 74 1 false, 64, 256, true, some (.agg #[.int .u32 0, .int .u32 0, .int .u32 0, .int .u32 0, .int .u32 0, .int .u32 0, .int .u32 0, .int .u32 0, .int .u32 0, .int .u32 0, .int .u32 0, .int .u32 0, .int .u32 0, .int .u32 0, .int .u32 0, .int .u32 0, .int .u32 0, .int .u32 0, .int .u32 0, .int .u32 0, .int .u32 0, .int .u32 0, .int .u32 0, .int .u32 0, .int .u32 0, .int .u32 0, .int .u32 0, .int .u32 0, .int .u32 0, .int .u32 0, .int .u32 0, .int .u32 0, .int .u32 0, .int .u32 0, .int .u32 0, .int .u32 0, .int .u32 0, .int .u32 0, .int .u32 0, .int .u32 0, .int .u32 0, .int .u32 0, .int .u32 0, .int .u32 0, .int .u32 0, .int .u32 0, .int .u32 0, .int .u32 0, .int .u32 0, .int .u32 0, .int .u32 0, .int .u32 0, .int .u32 0, .int .u32 0, .int .u32 0, .int .u32 0, .int .u32 0, .int .u32 0, .int .u32 0, .int .u32 0, .int .u32 0, .int .u32 0, .int .u32 0, .int .u32 0])⟩ := by kernel_rfl
theorem Tryd.tf134 : tf Tryd.prog 134 = some ⟨.array 4 74 1 false, 4, 16, true, some (.agg #[.int .u32 0, .int .u32 0, .int .u32 0, .int .u32 0])⟩ := by kernel_rfl
theorem Tryd.tf135 : tf Tryd.prog 135 = some ⟨.slice 74 1 4, 1, 24, false, some (.slice none 0 0)⟩ := by kernel_rfl
theorem Tryd.call5 : callable Tryd.prog 5 = true := by kernel_rfl
theorem Tryd.call6 : callable Tryd.prog 6 = true := by kernel_rfl
theorem Tryd.call8 : callable Tryd.prog 8 = true := by kernel_rfl
theorem Tryd.call10 : callable Tryd.prog 10 = true := by kernel_rfl
theorem Tryd.call11 : callable Tryd.prog 11 = true := by kernel_rfl
theorem Tryd.call12 : callable Tryd.prog 12 = true := by kernel_rfl
theorem Tryd.call13 : callable Tryd.prog 13 = true := by kernel_rfl
theorem Tryd.call14 : callable Tryd.prog 14 = true := by kernel_rfl
theorem Tryd.call15 : callable Tryd.prog 15 = true := by kernel_rfl
theorem Tryd.call16 : callable Tryd.prog 16 = true := by kernel_rfl
theorem Tryd.call17 : callable Tryd.prog 17 = true := by kernel_rfl
theorem Tryd.call18 : callable Tryd.prog 18 = true := by kernel_rfl
theorem Tryd.call19 : callable Tryd.prog 19 = true := by kernel_rfl
theorem Tryd.call20 : callable Tryd.prog 20 = true := by kernel_rfl
theorem Tryd.call21 : callable Tryd.prog 21 = true := by kernel_rfl
theorem Tryd.call22 : callable Tryd.prog 22 = true := by kernel_rfl
theorem Tryd.call23 : callable Tryd.prog 23 = true := by kernel_rfl
theorem Tryd.call24 : callable Tryd.prog 24 = true := by kernel_rfl
theorem Tryd.call25 : callable Tryd.prog 25 = true := by kernel_rfl
theorem Tryd.call26 : callable Tryd.prog 26 = true := by kernel_rfl
theorem Tryd.call31 : callable Tryd.prog 31 = true := by kernel_rfl
theorem Tryd.call32 : callable Tryd.prog 32 = true := by kernel_rfl
theorem Tryd.call33 : callable Tryd.prog 33 = true := by kernel_rfl
theorem Tryd.call34 : callable Tryd.prog 34 = true := by kernel_rfl
theorem Tryd.call35 : callable Tryd.prog 35 = true := by kernel_rfl
theorem Tryd.call36 : callable Tryd.prog 36 = true := by kernel_rfl
theorem Tryd.call37 : callable Tryd.prog 37 = true := by kernel_rfl
theorem Tryd.call38 : callable Tryd.prog 38 = true := by kernel_rfl
theorem Tryd.call39 : callable Tryd.prog 39 = true := by kernel_rfl
theorem Tryd.call40 : callable Tryd.prog 40 = true := by kernel_rfl
theorem Tryd.call41 : callable Tryd.prog 41 = true := by kernel_rfl
theorem Tryd.call42 : callable Tryd.prog 42 = true := by kernel_rfl
theorem Tryd.call43 : callable Tryd.prog 43 = true := by kernel_rfl
theorem Tryd.call44 : callable Tryd.prog 44 = true := by kernel_rfl
theorem Tryd.call45 : callable Tryd.prog 45 = true := by kernel_rfl
theorem Tryd.call46 : callable Tryd.prog 46 = true := by kernel_rfl
theorem Tryd.call47 : callable Tryd.prog 47 = true := by kernel_rfl
theorem Tryd.call55 : callable Tryd.prog 55 = true := by kernel_rfl
theorem Tryd.call56 : callable Tryd.prog 56 = true := by kernel_rfl
theorem Tryd.call58 : callable Tryd.prog 58 = true := by kernel_rfl
theorem Tryd.call60 : callable Tryd.prog 60 = true := by kernel_rfl
theorem Tryd.call61 : callable Tryd.prog 61 = true := by kernel_rfl
theorem Tryd.call63 : callable Tryd.prog 63 = true := by kernel_rfl
theorem Tryd.call64 : callable Tryd.prog 64 = true := by kernel_rfl
theorem Tryd.call67 : callable Tryd.prog 67 = true := by kernel_rfl
theorem Tryd.call68 : callable Tryd.prog 68 = true := by kernel_rfl
theorem Tryd.call69 : callable Tryd.prog 69 = true := by kernel_rfl
theorem Tryd.call79 : callable Tryd.prog 79 = true := by kernel_rfl
theorem Tryd.call80 : callable Tryd.prog 80 = true := by kernel_rfl
theorem Tryd.call82 : callable Tryd.prog 82 = true := by kernel_rfl
theorem Tryd.call83 : callable Tryd.prog 83 = true := by kernel_rfl
theorem Tryd.call91 : callable Tryd.prog 91 = true := by kernel_rfl
end Go.PM

namespace Go.PM
open Go.Proofs
attribute [local irreducible] W PCalls pcall pcallI WL
@[reducible] def pw (x : UInt32) : PV := pint .u32 x.toNat
theorem wrap_u32 (n : Int) : IntKind.u32.wrap n = n % 4294967296 := by
  simp [IntKind.wrap, IntKind.bits, IntKind.signed]
theorem bitsw (op : BinOp) (f : BitVec 32 → BitVec 32 → BitVec 32) (x y : UInt32) (h : bits op .u32 (x.toNat : Int) (y.toNat : Int) = IntKind.u32.wrap ((f (BitVec.ofInt 32 (x.toNat : Int)) (BitVec.ofInt 32 (y.toNat : Int))).toNat : Int)) :
    bits op .u32 (x.toNat : Int) (y.toNat : Int) = ((f x.toBitVec y.toBitVec).toNat : Int) := by
  have e : ∀ z : UInt32, BitVec.ofInt 32 (z.toNat : Int) = z.toBitVec := fun z => by
    rw [BitVec.ofInt_natCast]
    apply BitVec.eq_of_toNat_eq
    have := z.toNat_lt
    simp
  rw [h, e, e, wrap_u32]
  have := (f x.toBitVec y.toBitVec).isLt
  omega
theorem w_xor (x y : UInt32) : bits .xor .u32 (x.toNat : Int) (y.toNat : Int) = ((x ^^^ y).toNat : Int) := bitsw .xor (· ^^^ ·) x y rfl
theorem w_and (x y : UInt32) : bits .and .u32 (x.toNat : Int) (y.toNat : Int) = ((x &&& y).toNat : Int) := bitsw .and (· &&& ·) x y rfl
theorem w_or (x y : UInt32) : bits .or .u32 (x.toNat : Int) (y.toNat : Int) = ((x ||| y).toNat : Int) := bitsw .or (· ||| ·) x y rfl
theorem w_add (x y : UInt32) : IntKind.u32.wrap ((x.toNat : Int) + (y.toNat : Int)) = ((x + y).toNat : Int) := by
  rw [wrap_u32, UInt32.toNat_add]
  omega
theorem w_not (x : UInt32) : bits .xor .u32 (if IntKind.u32.signed = true then -1 else IntKind.u32.max) (x.toNat : Int) = ((x ^^^ 4294967295).toNat : Int) := by
  have e : (if IntKind.u32.signed = true then (-1 : Int) else IntKind.u32.max) = ((4294967295 : UInt32).toNat : Int) := by decide
  rw [e, w_xor, UInt32.xor_comm]
/-- A word turned right. -/
def R (x : UInt32) (n : Nat) : UInt32 := (x <<< UInt32.ofNat (32 - n)) ||| (x >>> UInt32.ofNat n)
theorem w_shl (x : UInt32) (s : Nat) (h : s < 32) : IntKind.u32.wrap ((x.toNat : Int) * 2 ^ min s IntKind.u32.bits) = ((x <<< UInt32.ofNat s).toNat : Int) := by
  have h1 : min s IntKind.u32.bits = s := by simp only [IntKind.bits]; omega
  have h2 : (UInt32.ofNat s).toNat = s := UInt32.toNat_ofNat_of_lt' (show s < 4294967296 by omega)
  rw [h1, wrap_u32, UInt32.toNat_shiftLeft, h2, Nat.mod_eq_of_lt h, Nat.shiftLeft_eq]
  have e : (x.toNat : Int) * 2 ^ s = ((x.toNat * 2 ^ s : Nat) : Int) := by rw [Int.natCast_mul, Int.natCast_pow]; rfl
  rw [e]
  generalize x.toNat * 2 ^ s = y
  omega
theorem w_shr (x : UInt32) (s : Nat) (h : s < 32) : ((x.toNat : Int)).fdiv (2 ^ min s IntKind.u32.bits) = ((x >>> UInt32.ofNat s).toNat : Int) := by
  have h1 : min s IntKind.u32.bits = s := by simp only [IntKind.bits]; omega
  have h2 : (UInt32.ofNat s).toNat = s := UInt32.toNat_ofNat_of_lt' (show s < 4294967296 by omega)
  rw [h1, UInt32.toNat_shiftRight, h2, Nat.mod_eq_of_lt h, Nat.shiftRight_eq_div_pow, show (2 : Int) ^ s = ((2 ^ s : Nat) : Int) by rw [Int.natCast_pow]; rfl, Int.fdiv_eq_ediv_of_nonneg _ (Int.natCast_nonneg _)]
  rfl
theorem and31 : ∀ n : _root_.Fin 32, 1 ≤ n.val → bits .and .u64 (IntKind.u64.wrap (-(n.val : Int))) 31 = ((32 - n.val : Nat) : Int) := by decide +kernel
theorem rot_c (G : Globs) (x : UInt32) (n : Nat) (h1 : 1 ≤ n) (h2 : n ≤ 31) : PCalls Tryd.prog G 91 [pw x, pint .i64 (-(n : Int))] [] (fun res H => res = pw (R x n) ∧ H = []) := by
  have ha := and31 ⟨n, by omega⟩ h1
  simp only at ha
  have hs1 := w_shl x (32 - n) (by omega)
  have hs2 := w_shr x n (by omega)
  have hw : IntKind.u64.wrap (32 - ((32 - n : Nat) : Int)) = (n : Int) := by
    simp [IntKind.wrap, IntKind.bits, IntKind.signed]
    omega
  (refine PCalls_f Tryd.func91 rfl Tryd.ntmps91 Tryd.results91 (by simp) fun fin hfin => ?_; have hnm : True := trivial; simp only [ev, Nat.reduceAdd, Nat.reduceMul, Nat.reduceSub, Nat.reduceLeDiff, Nat.reduceEqDiff, ↓reduceIte, reduceCtorEq, Nat.reduceLT, Nat.reducePow, Nat.reduceDiv, Nat.reduceMod, Nat.reduceBEq, Int.reduceLT, Int.reduceLE, Int.reduceToNat, Int.reduceAdd, Int.reduceSub, Int.reduceNeg])
  repeat' (first
    | (with_reducible apply W_seq_k; intro nx hnx)
    | (with_reducible first | refine wr 51 ?_)
    | ((with_reducible first | (apply WL_op; intro nx hnx) | refine Ev_out ?_ | refine wc ?_ | (refine pf hnm fun nm hnm => ?_; try simp only [fmb] at hnm) | (refine pm hnm fun nm hnm => ?_; try simp only [fmb] at hnm)); try (simp (maxSteps := 2000000) (disch := omega) only [ev, ↓evp, PV.cells, PV.one, PV.mem?, Value.cells, Nat.reduceAdd, Nat.reduceMul, Nat.reduceSub, Nat.reduceLeDiff, Nat.reduceEqDiff, ↓reduceIte, reduceCtorEq, Nat.reduceLT, Nat.reducePow, Nat.reduceDiv, Nat.reduceMod, Nat.reduceBEq, Int.reduceLT, Int.reduceLE, Int.reduceToNat, Int.reduceAdd, Int.reduceSub, Int.reduceNeg, hnm, Tryd.tf3, Tryd.tf74, Tryd.tf131, ha, hs1, hw, hs2, w_or]))
    | ((with_reducible first | apply W_block | apply W_scope | apply WL_nil | apply W_label | apply W_skip | apply W_exit | apply W_ret) <;> try simp only [kks, Nat.reduceAdd, Nat.reduceMul, Nat.reduceSub, Nat.reduceLeDiff, Nat.reduceEqDiff, ↓reduceIte, reduceCtorEq, Nat.reduceLT, Nat.reducePow, Nat.reduceDiv, Nat.reduceMod, Nat.reduceBEq, Int.reduceLT, Int.reduceLE, Int.reduceToNat, Int.reduceAdd, Int.reduceSub, Int.reduceNeg])
    | (with_reducible apply hnx; clear hnx nx)
    | (with_reducible refine And.intro (by omega) ?_)
    | (with_reducible refine And.intro ?_ ?_)
    | (clear hnx nx; with_reducible apply hnx; clear hnx nx)
    | (clear hnx nx; clear hnx nx; with_reducible apply hnx; clear hnx nx))
  (refine hfin _ _ (Fin_ret1 rfl (Sub_nil _) ?_); simp only [cob, Nat.reduceAdd, Nat.reduceMul, Nat.reduceSub, Nat.reduceLeDiff, Nat.reduceEqDiff, ↓reduceIte, reduceCtorEq, Nat.reduceLT, Nat.reducePow, Nat.reduceDiv, Nat.reduceMod, Nat.reduceBEq, Int.reduceLT, Int.reduceLE, Int.reduceToNat, Int.reduceAdd, Int.reduceSub, Int.reduceNeg]; first | trivial | exact ⟨rfl, by trivial⟩ | (simp; done) | (simp; omega))
theorem rot_k (G : Globs) (x : UInt32) (k : Int) (n : Nat) (hk : k = -(n : Int)) (h1 : 1 ≤ n) (h2 : n ≤ 31) : PCalls Tryd.prog G 91 [pw x, pint .i64 k] [] (fun res H => res = pw (R x n) ∧ H = []) := by
  rw [hk]
  exact rot_c G x n h1 h2
/-- The mix of a word. -/
def Mx (x : UInt32) (i j k : Nat) : UInt32 := R x i ^^^ R x j ^^^ R x k
theorem mix_c (G : Globs) (x : UInt32) (i j k : Nat) (hi : 1 ≤ i ∧ i ≤ 31) (hj : 1 ≤ j ∧ j ≤ 31) (hk : 1 ≤ k ∧ k ≤ 31) : PCalls Tryd.prog G 80 [pw x, pint .i64 i, pint .i64 j, pint .i64 k] [] (fun res H => res = pw (Mx x i j k) ∧ H = []) := by
  (refine PCalls_f Tryd.func80 rfl Tryd.ntmps80 Tryd.results80 (by simp) fun fin hfin => ?_; have hnm : True := trivial; simp only [ev, Nat.reduceAdd, Nat.reduceMul, Nat.reduceSub, Nat.reduceLeDiff, Nat.reduceEqDiff, ↓reduceIte, reduceCtorEq, Nat.reduceLT, Nat.reducePow, Nat.reduceDiv, Nat.reduceMod, Nat.reduceBEq, Int.reduceLT, Int.reduceLE, Int.reduceToNat, Int.reduceAdd, Int.reduceSub, Int.reduceNeg])
  repeat' (first
    | (with_reducible apply W_seq_k; intro nx hnx)
    | (with_reducible first | refine wr 271 ?_)
    | ((with_reducible first | (apply WL_op; intro nx hnx) | refine Ev_out ?_ | refine wc ?_); try (simp (maxSteps := 2000000) (disch := omega) only [ev, ↓evp, PV.cells, PV.one, PV.mem?, Value.cells, Nat.reduceAdd, Nat.reduceMul, Nat.reduceSub, Nat.reduceLeDiff, Nat.reduceEqDiff, ↓reduceIte, reduceCtorEq, Nat.reduceLT, Nat.reducePow, Nat.reduceDiv, Nat.reduceMod, Nat.reduceBEq, Int.reduceLT, Int.reduceLE, Int.reduceToNat, Int.reduceAdd, Int.reduceSub, Int.reduceNeg, hnm, Tryd.tf3, Tryd.tf74, Tryd.call91, w_xor]))
    | ((with_reducible first | apply W_block | apply W_scope | apply WL_nil | apply W_label | apply W_skip | apply W_exit | apply W_ret) <;> try simp only [kks, Nat.reduceAdd, Nat.reduceMul, Nat.reduceSub, Nat.reduceLeDiff, Nat.reduceEqDiff, ↓reduceIte, reduceCtorEq, Nat.reduceLT, Nat.reducePow, Nat.reduceDiv, Nat.reduceMod, Nat.reduceBEq, Int.reduceLT, Int.reduceLE, Int.reduceToNat, Int.reduceAdd, Int.reduceSub, Int.reduceNeg])
    | (with_reducible apply hnx; clear hnx nx)
    | (with_reducible refine And.intro (by omega) ?_)
    | (with_reducible refine And.intro ?_ ?_)
    | (with_reducible refine pe (rot_k G x (0 - i) i (by omega) hi.1 hi.2) ?_)
    | (with_reducible refine pe (rot_k G x (0 - j) j (by omega) hj.1 hj.2) ?_)
    | (with_reducible refine pe (rot_k G x (0 - k) k (by omega) hk.1 hk.2) ?_)
    | (clear hnx nx; with_reducible apply hnx; clear hnx nx)
    | (clear hnx nx; clear hnx nx; with_reducible apply hnx; clear hnx nx))
  (refine hfin _ _ (Fin_ret1 rfl (Sub_nil _) ?_); simp only [cob, Nat.reduceAdd, Nat.reduceMul, Nat.reduceSub, Nat.reduceLeDiff, Nat.reduceEqDiff, ↓reduceIte, reduceCtorEq, Nat.reduceLT, Nat.reducePow, Nat.reduceDiv, Nat.reduceMod, Nat.reduceBEq, Int.reduceLT, Int.reduceLE, Int.reduceToNat, Int.reduceAdd, Int.reduceSub, Int.reduceNeg]; first | trivial | exact ⟨rfl, by trivial⟩ | (simp; done) | (simp; omega))
end Go.PM

namespace Go.PM
open Go.Proofs
attribute [local irreducible] W PCalls pcall pcallI WL
def accB (m : UInt32) (x : UInt8) : UInt32 := (m <<< UInt32.ofNat 8) ||| x.toUInt32
def wB (b : List UInt8) (t : Nat) : UInt32 := ((b.drop (4 * t)).take 4).foldl accB 0
def S0 (p : UInt32) : UInt32 := R p 7 ^^^ R p 18 ^^^ (p >>> UInt32.ofNat 3)
def S1 (q : UInt32) : UInt32 := R q 17 ^^^ R q 19 ^^^ (q >>> UInt32.ofNat 10)
/-- The next word. -/
def nxt (b : List UInt8) (w : List UInt32) (t : Nat) : UInt32 := if t < 16 then wB b t else w.getD (t - 16) 0 + S0 (w.getD (t - 15) 0) + w.getD (t - 7) 0 + S1 (w.getD (t - 2) 0)
/-- The first words of a block. -/
def WLs (b : List UInt8) : Nat → List UInt32
  | 0 => []
  | t + 1 => WLs b t ++ [nxt b (WLs b t) t]
theorem WLs_len (b : List UInt8) : ∀ t, (WLs b t).length = t
  | 0 => rfl
  | t + 1 => by simp [WLs, WLs_len b t]
theorem WLs_get (b : List UInt8) (t i : Nat) (h : t ≤ i) : (WLs b t).getD i 0 = 0 := by
  rw [List.getD_eq_getElem?_getD, List.getElem?_eq_none (by rw [WLs_len]; exact h)]
  rfl
theorem WLs_keep (b : List UInt8) (t i : Nat) (h : i < t) : (WLs b (t + 1)).getD i 0 = (WLs b t).getD i 0 := by
  rw [WLs, List.getD_eq_getElem?_getD, List.getD_eq_getElem?_getD, List.getElem?_append_left (by rw [WLs_len]; exact h)]
theorem WLs_new (b : List UInt8) (t : Nat) : (WLs b (t + 1)).getD t 0 = nxt b (WLs b t) t := by
  rw [WLs, List.getD_eq_getElem?_getD, List.getElem?_append_right (by rw [WLs_len]; exact Nat.le_refl _)]
  simp [WLs_len]
/-- The cells while the word t is made: a is what it holds so far. -/
def cA (b : List UInt8) (t : Nat) (a : UInt32) : List PV := tab 64 fun m => if m = t then pw a else pw ((WLs b t).getD m 0)
def cW (b : List UInt8) (t : Nat) : List PV := tab 64 fun m => pw ((WLs b t).getD m 0)
theorem cW_len (b : List UInt8) (t : Nat) : (cW b t).length = 64 := tab_len _ _
theorem cA_len (b : List UInt8) (t : Nat) (a : UInt32) : (cA b t a).length = 64 := tab_len _ _
theorem cW_get (b : List UInt8) (t i : Nat) (h : i < 64) : (cW b t)[i]? = some (pw ((WLs b t).getD i 0)) := tab_get h
theorem cA_get (b : List UInt8) (t : Nat) (a : UInt32) (h : t < 64) : (cA b t a)[t]? = some (pw a) := by
  rw [cA, tab_get h]
  simp
theorem cA_zero (b : List UInt8) (t : Nat) : cA b t 0 = cW b t := by
  rw [cA, cW]
  refine tab_congr fun i _ => ?_
  by_cases h : i = t
  · subst h
    rw [if_pos rfl, WLs_get b i i (Nat.le_refl _)]
  · rw [if_neg h]
theorem cW_zero (b : List UInt8) : cW b 0 = List.replicate 64 (pint .u32 0) := by
  rw [cW, tab_congr (g := fun _ => pint .u32 0) (fun i _ => by simp [WLs])]
  simp [tab, List.range_succ]
theorem cA_set (b : List UInt8) (t : Nat) (a a' : UInt32) (h : t < 64) : List.take t (cA b t a) ++ [pw a'] ++ List.drop (t + 1) (cA b t a) = cA b t a' := by
  rw [cA, tab_set h, cA]
  refine tab_congr fun i _ => ?_
  by_cases h : i = t
  · rw [if_pos h, if_pos h]
  · rw [if_neg h, if_neg h, if_neg h]
theorem cW_set (b : List UInt8) (t : Nat) (h : t < 64) : List.take t (cW b t) ++ [pw (nxt b (WLs b t) t)] ++ List.drop (t + 1) (cW b t) = cW b (t + 1) := by
  rw [cW, tab_set h, cW]
  refine tab_congr fun i _ => ?_
  by_cases h : i = t
  · subst h
    rw [if_pos rfl, WLs_new]
  · rw [if_neg h]
    rcases Nat.lt_or_ge i t with h2 | h2
    · rw [WLs_keep b t i h2]
    · rw [WLs_get b t i h2, WLs_get b (t + 1) i (by omega)]
theorem cA_done (b : List UInt8) (t : Nat) (h : t < 16) : cA b t (wB b t) = cW b (t + 1) := by
  rw [cA, cW]
  refine tab_congr fun i _ => ?_
  by_cases h3 : i = t
  · subst h3
    rw [if_pos rfl, WLs_new, nxt, if_pos h]
  · rw [if_neg h3]
    rcases Nat.lt_or_ge i t with h2 | h2
    · rw [WLs_keep b t i h2]
    · rw [WLs_get b t i h2, WLs_get b (t + 1) i (by omega)]
theorem cW_full (b : List UInt8) : cW b 64 = (WLs b 64).map pw := by
  apply List.ext_getElem
  · simp [cW_len, WLs_len]
  · intro i h1 h2
    rw [cW_len] at h1
    have h3 := cW_get b 64 i h1
    rw [List.getElem?_eq_getElem (by rw [cW_len]; exact h1)] at h3
    rw [Option.some.inj h3, List.getElem_map]
    simp [WLs_len, h1]
attribute [irreducible] cA cW
theorem w_byte (x : UInt8) : IntKind.u32.wrap ((x.toNat : Nat) : Int) = ((x.toUInt32.toNat : Nat) : Int) := by
  have := x.toNat_lt
  rw [wrap_u32, UInt8.toNat_toUInt32]
  omega
theorem all_one_pw (d : List UInt32) : (d.map pw).all PV.one = true := by
  rw [List.all_eq_true]
  intro p hp
  obtain ⟨b, _, rfl⟩ := List.mem_map.1 hp
  rfl
theorem all_one_byte (d : List UInt8) : (d.map pbyte).all PV.one = true := by
  rw [List.all_eq_true]
  intro p hp
  obtain ⟨b, _, rfl⟩ := List.mem_map.1 hp
  rfl
set_option maxRecDepth 100000 in
set_option maxHeartbeats 8000000 in
theorem sched_c (G : Globs) (b : List UInt8) (hb : b.length = 64) : PCalls Tryd.prog G 79 [.list 1 (b.map pbyte)] [] (fun res H => res = .agg ((WLs b 64).map pw) ∧ H = []) := by
  (refine PCalls_f Tryd.func79 rfl Tryd.ntmps79 Tryd.results79 (by simp) fun fin hfin => ?_; have hnm : True := trivial; simp only [ev, Nat.reduceAdd, Nat.reduceMul, Nat.reduceSub, Nat.reduceLeDiff, Nat.reduceEqDiff, ↓reduceIte, reduceCtorEq, Nat.reduceLT, Nat.reducePow, Nat.reduceDiv, Nat.reduceMod, Nat.reduceBEq, Int.reduceLT, Int.reduceLE, Int.reduceToNat, Int.reduceAdd, Int.reduceSub, Int.reduceNeg])
  repeat' (first
    | (with_reducible apply W_seq_k; intro nx hnx)
    | (with_reducible first | refine wr 29364189 ?_ | refine wd (id := 11) 29364189 1 (.op 0 true (.op 1 true (.op 2 true (.op 3 true (.op 4 true (.op 5 true (.op 6 true (.op 7 true (.op 8 true (.op 9 true (.done))))))))))) (by kernel_rfl) ?_ | refine wd (id := 14) 29364189 1 (.op 0 true (.op 1 true (.op 2 true (.op 3 true (.op 4 true (.op 5 true (.op 6 true (.op 7 true (.op 8 true (.op 9 true (.op 10 true (.op 11 true (.op 12 true (.op 13 true (.op 14 true (.op 15 false (.done))))))))))))))))) (by kernel_rfl) ?_)
    | ((with_reducible first | (apply WL_op; intro nx hnx) | refine Ev_out ?_ | refine wc ?_ | (apply popsD_op; intro nx hnx) | (refine popsD_alt ?_ ?_; intro nx hnx) | (refine pf hnm fun nm hnm => ?_; try simp only [fmb] at hnm) | (refine pm hnm fun nm hnm => ?_; try simp only [fmb] at hnm)); try (simp (maxSteps := 2000000) (disch := omega) only [ev, ↓evp, PV.cells, PV.one, PV.mem?, Value.cells, Nat.reduceAdd, Nat.reduceMul, Nat.reduceSub, Nat.reduceLeDiff, Nat.reduceEqDiff, ↓reduceIte, reduceCtorEq, Nat.reduceLT, Nat.reducePow, Nat.reduceDiv, Nat.reduceMod, Nat.reduceBEq, Int.reduceLT, Int.reduceLE, Int.reduceToNat, Int.reduceAdd, Int.reduceSub, Int.reduceNeg, hnm, Tryd.tf0, Tryd.tf3, Tryd.tf4, Tryd.tf5, Tryd.tf27, Tryd.tf74, Tryd.tf131, Tryd.tf132, Tryd.call91]))
    | ((with_reducible first | apply W_block | apply W_scope | apply WL_nil | apply W_label | apply W_skip | apply W_exit | apply W_ret | apply popsD_done | exact popsD_stop) <;> try simp only [kks, Nat.reduceAdd, Nat.reduceMul, Nat.reduceSub, Nat.reduceLeDiff, Nat.reduceEqDiff, ↓reduceIte, reduceCtorEq, Nat.reduceLT, Nat.reducePow, Nat.reduceDiv, Nat.reduceMod, Nat.reduceBEq, Int.reduceLT, Int.reduceLE, Int.reduceToNat, Int.reduceAdd, Int.reduceSub, Int.reduceNeg])
    | (with_reducible apply pg <;> (intro hc; (try simp only [hcb, Nat.reduceAdd, Nat.reduceMul, Nat.reduceSub, Nat.reduceLeDiff, Nat.reduceEqDiff, ↓reduceIte, reduceCtorEq, Nat.reduceLT, Nat.reducePow, Nat.reduceDiv, Nat.reduceMod, Nat.reduceBEq, Int.reduceLT, Int.reduceLE, Int.reduceToNat, Int.reduceAdd, Int.reduceSub, Int.reduceNeg, ne_eq, forall_const] at hc); first | (exfalso; omega) | exact absurd trivial hc | skip))
    | (with_reducible apply hnx; clear hnx nx)
    | (with_reducible refine And.intro (by omega) ?_)
    | (with_reducible refine And.intro ?_ ?_)
    | (clear hnx nx; with_reducible apply hnx; clear hnx nx)
    | (clear hnx nx; clear hnx nx; with_reducible apply hnx; clear hnx nx))
  rename_i N2 _
  obtain ⟨N3, hN3⟩ : ∃ N, N = nm := ⟨_, rfl⟩
  subst hN3
  have hN : N3 ≠ N2 := by simp only [ne_eq, hnm, not_false_eq_true]
  have hN1 : ¬ N3 = N2 := hN
  have hN4 : ¬ N2 = N3 := fun e => hN e.symm
  clear hnm
  have hnm : True := trivial
  refine W_loop_k (fun z τ => ∃ t : Nat, t ≤ 64 ∧ z = 64 - t ∧ τ = ⟨fr 79 [(0, .list 1 (b.map pbyte)), (2, .ptr N2 0), (3, .ptr N3 0), (11, pint .i64 t)], [(N3, ⟨132, false, 0, cW b t⟩), (N2, ⟨132, false, 0, cW b 0⟩)]⟩) 64 ⟨fr 79 [(0, .list 1 (b.map pbyte)), (2, .ptr N2 0), (3, .ptr N3 0), (11, pint .i64 (0 : Nat))], [(N3, ⟨132, false, 0, cW b 0⟩), (N2, ⟨132, false, 0, cW b 0⟩)]⟩ (by
    rw [cW_zero]
    refine Wk_fr (by simp only [wkb, Nat.reduceAdd, Nat.reduceMul, Nat.reduceSub, Nat.reduceLeDiff, Nat.reduceEqDiff, ↓reduceIte, reduceCtorEq, Nat.reduceLT, Nat.reducePow, Nat.reduceDiv, Nat.reduceMod, Nat.reduceBEq, Int.reduceLT, Int.reduceLE, Int.reduceToNat, Int.reduceAdd, Int.reduceSub, Int.reduceNeg]) ?_
    exact ⟨by simp, by simp [names, hN]⟩) ⟨0, by omega, by omega, rfl⟩ ?_
  rintro z τ ⟨t, ht, rfl, rfl⟩ lp hlp
  have hcl := cW_len b t
  by_cases ht1 : t < 16
  · have hmid : List.drop (4 * t) (List.take (4 * t + 4) (b.map pbyte)) = ((b.drop (4 * t)).take 4).map pbyte := by
      rw [List.drop_take, List.map_take, List.map_drop, show 4 * t + 4 - 4 * t = 4 by omega]
    have h41 : (4 * (t : Int)).toNat = 4 * t := by omega
    have h42 : (4 * (t : Int) + 4).toNat = 4 * t + 4 := by omega
    obtain ⟨c, hcd⟩ : ∃ c, c = (b.drop (4 * t)).take 4 := ⟨_, rfl⟩
    have hc4 : c.length = 4 := by rw [hcd, List.length_take, List.length_drop]; omega
    rw [← hcd] at hmid
    repeat' (first
    | (with_reducible apply W_seq_k; intro nx hnx)
    | (with_reducible first | refine wr 29364189 ?_ | refine wd (id := 11) 29364189 1 (.op 0 true (.op 1 true (.op 2 true (.op 3 true (.op 4 true (.op 5 true (.op 6 true (.op 7 true (.op 8 true (.op 9 true (.done))))))))))) (by kernel_rfl) ?_ | refine wd (id := 14) 29364189 1 (.op 0 true (.op 1 true (.op 2 true (.op 3 true (.op 4 true (.op 5 true (.op 6 true (.op 7 true (.op 8 true (.op 9 true (.op 10 true (.op 11 true (.op 12 true (.op 13 true (.op 14 true (.op 15 false (.done))))))))))))))))) (by kernel_rfl) ?_)
    | ((with_reducible first | (apply WL_op; intro nx hnx) | refine Ev_out ?_ | refine wc ?_ | (apply popsD_op; intro nx hnx) | (refine popsD_alt ?_ ?_; intro nx hnx) | (refine pf hnm fun nm hnm => ?_; try simp only [fmb] at hnm) | (refine pm hnm fun nm hnm => ?_; try simp only [fmb] at hnm)); try (simp (maxSteps := 2000000) (disch := omega) only [ev, ↓evp, PV.cells, PV.one, PV.mem?, Value.cells, Nat.reduceAdd, Nat.reduceMul, Nat.reduceSub, Nat.reduceLeDiff, Nat.reduceEqDiff, ↓reduceIte, reduceCtorEq, Nat.reduceLT, Nat.reducePow, Nat.reduceDiv, Nat.reduceMod, Nat.reduceBEq, Int.reduceLT, Int.reduceLE, Int.reduceToNat, Int.reduceAdd, Int.reduceSub, Int.reduceNeg, hnm, Tryd.tf0, Tryd.tf3, Tryd.tf4, Tryd.tf5, Tryd.tf27, Tryd.tf74, Tryd.tf131, Tryd.tf132, Tryd.call91, hN1, hN4, hmid, h41, h42, hc4]))
    | ((with_reducible first | apply W_block | apply W_scope | apply WL_nil | apply W_label | apply W_skip | apply W_exit | apply W_ret | apply popsD_done | exact popsD_stop) <;> try simp only [kks, Nat.reduceAdd, Nat.reduceMul, Nat.reduceSub, Nat.reduceLeDiff, Nat.reduceEqDiff, ↓reduceIte, reduceCtorEq, Nat.reduceLT, Nat.reducePow, Nat.reduceDiv, Nat.reduceMod, Nat.reduceBEq, Int.reduceLT, Int.reduceLE, Int.reduceToNat, Int.reduceAdd, Int.reduceSub, Int.reduceNeg])
    | (with_reducible apply pg <;> (intro hc; (try simp only [hcb, Nat.reduceAdd, Nat.reduceMul, Nat.reduceSub, Nat.reduceLeDiff, Nat.reduceEqDiff, ↓reduceIte, reduceCtorEq, Nat.reduceLT, Nat.reducePow, Nat.reduceDiv, Nat.reduceMod, Nat.reduceBEq, Int.reduceLT, Int.reduceLE, Int.reduceToNat, Int.reduceAdd, Int.reduceSub, Int.reduceNeg, ne_eq, forall_const] at hc); first | (exfalso; omega) | exact absurd trivial hc | skip))
    | (with_reducible apply hnx; clear hnx nx)
    | (with_reducible refine And.intro (by omega) ?_)
    | (with_reducible refine And.intro ?_ ?_)
    | (clear hnx nx; with_reducible apply hnx; clear hnx nx)
    | (clear hnx nx; clear hnx nx; with_reducible apply hnx; clear hnx nx))
    all_goals first
      | (exfalso
         omega)
      | skip
    refine W_loop_k (fun z τ => ∃ i : Nat, i ≤ 4 ∧ z = 4 - i ∧ τ = ⟨fr 79 [(0, .list 1 (b.map pbyte)), (2, .ptr N2 0), (3, .ptr N3 0), (4, pint .i64 t), (11, pint .i64 t), (22, .list 1 (c.map pbyte)), (23, pint .i64 4), (24, pint .i64 i)], [(N3, ⟨132, false, 0, cA b t ((c.take i).foldl accB 0)⟩), (N2, ⟨132, false, 0, cW b 0⟩)]⟩) 4 ⟨fr 79 [(0, .list 1 (b.map pbyte)), (2, .ptr N2 0), (3, .ptr N3 0), (4, pint .i64 t), (11, pint .i64 t), (22, .list 1 (c.map pbyte)), (23, pint .i64 4), (24, pint .i64 (0 : Nat))], [(N3, ⟨132, false, 0, cA b t ((c.take 0).foldl accB 0)⟩), (N2, ⟨132, false, 0, cW b 0⟩)]⟩ (by
      rw [List.take_zero, List.foldl_nil, cA_zero]
      refine Wk_fr (by simp only [wkb, Nat.reduceAdd, Nat.reduceMul, Nat.reduceSub, Nat.reduceLeDiff, Nat.reduceEqDiff, ↓reduceIte, reduceCtorEq, Nat.reduceLT, Nat.reducePow, Nat.reduceDiv, Nat.reduceMod, Nat.reduceBEq, Int.reduceLT, Int.reduceLE, Int.reduceToNat, Int.reduceAdd, Int.reduceSub, Int.reduceNeg]) ?_
      exact ⟨by simp, by simp [names, hN]⟩) ⟨0, by omega, by omega, rfl⟩ ?_
    rintro z τ ⟨i, hi, rfl, rfl⟩ lp2 hlp2
    have hal := cA_len b t ((c.take i).foldl accB 0)
    have hag := cA_get b t ((c.take i).foldl accB 0) (by omega)
    by_cases hi4 : i < 4
    · have hic : i < c.length := by omega
      have hst : (c.take (i + 1)).foldl accB 0 = accB ((c.take i).foldl accB 0) c[i] := by
        rw [List.take_add_one, List.getElem?_eq_getElem hic, Option.toList_some, List.foldl_append]
        rfl
      have hsh := w_shl ((c.take i).foldl accB 0) 8 (by omega)
      have hby := w_byte c[i]
      have hor : ((c.take i).foldl accB 0 <<< UInt32.ofNat 8) ||| c[i].toUInt32 = (c.take (i + 1)).foldl accB 0 := by rw [hst]; rfl
      have hset := cA_set b t ((c.take i).foldl accB 0) ((c.take (i + 1)).foldl accB 0) (by omega)
      repeat' (first
    | (with_reducible apply W_seq_k; intro nx hnx)
    | (with_reducible first | refine wr 29364189 ?_ | refine wd (id := 11) 29364189 1 (.op 0 true (.op 1 true (.op 2 true (.op 3 true (.op 4 true (.op 5 true (.op 6 true (.op 7 true (.op 8 true (.op 9 true (.done))))))))))) (by kernel_rfl) ?_ | refine wd (id := 14) 29364189 1 (.op 0 true (.op 1 true (.op 2 true (.op 3 true (.op 4 true (.op 5 true (.op 6 true (.op 7 true (.op 8 true (.op 9 true (.op 10 true (.op 11 true (.op 12 true (.op 13 true (.op 14 true (.op 15 false (.done))))))))))))))))) (by kernel_rfl) ?_)
    | ((with_reducible first | (apply WL_op; intro nx hnx) | refine Ev_out ?_ | refine wc ?_ | (apply popsD_op; intro nx hnx) | (refine popsD_alt ?_ ?_; intro nx hnx) | (refine pf hnm fun nm hnm => ?_; try simp only [fmb] at hnm) | (refine pm hnm fun nm hnm => ?_; try simp only [fmb] at hnm)); try (simp (maxSteps := 2000000) (disch := omega) only [ev, ↓evp, PV.cells, PV.one, PV.mem?, Value.cells, Nat.reduceAdd, Nat.reduceMul, Nat.reduceSub, Nat.reduceLeDiff, Nat.reduceEqDiff, ↓reduceIte, reduceCtorEq, Nat.reduceLT, Nat.reducePow, Nat.reduceDiv, Nat.reduceMod, Nat.reduceBEq, Int.reduceLT, Int.reduceLE, Int.reduceToNat, Int.reduceAdd, Int.reduceSub, Int.reduceNeg, hnm, Tryd.tf0, Tryd.tf3, Tryd.tf4, Tryd.tf5, Tryd.tf27, Tryd.tf74, Tryd.tf131, Tryd.tf132, Tryd.call91, hN1, hN4, hal, hag, hsh, hby, w_or, hor, hset]))
    | ((with_reducible first | apply W_block | apply W_scope | apply WL_nil | apply W_label | apply W_skip | apply W_exit | apply W_ret | apply popsD_done | exact popsD_stop) <;> try simp only [kks, Nat.reduceAdd, Nat.reduceMul, Nat.reduceSub, Nat.reduceLeDiff, Nat.reduceEqDiff, ↓reduceIte, reduceCtorEq, Nat.reduceLT, Nat.reducePow, Nat.reduceDiv, Nat.reduceMod, Nat.reduceBEq, Int.reduceLT, Int.reduceLE, Int.reduceToNat, Int.reduceAdd, Int.reduceSub, Int.reduceNeg])
    | (with_reducible apply pg <;> (intro hc; (try simp only [hcb, Nat.reduceAdd, Nat.reduceMul, Nat.reduceSub, Nat.reduceLeDiff, Nat.reduceEqDiff, ↓reduceIte, reduceCtorEq, Nat.reduceLT, Nat.reducePow, Nat.reduceDiv, Nat.reduceMod, Nat.reduceBEq, Int.reduceLT, Int.reduceLE, Int.reduceToNat, Int.reduceAdd, Int.reduceSub, Int.reduceNeg, ne_eq, forall_const] at hc); first | (exfalso; omega) | exact absurd trivial hc | skip))
    | (with_reducible apply hnx; clear hnx nx)
    | (with_reducible refine And.intro (by omega) ?_)
    | (with_reducible refine And.intro ?_ ?_)
    | (clear hnx nx; with_reducible apply hnx; clear hnx nx)
    | (clear hnx nx; clear hnx nx; with_reducible apply hnx; clear hnx nx))
      all_goals first
        | (exfalso
           omega)
        | (refine hlp2 _ (4 - (i + 1)) _ (by omega) ?_ ⟨i + 1, by omega, rfl, rfl⟩
           refine Wk_fr (by simp only [wkb, Nat.reduceAdd, Nat.reduceMul, Nat.reduceSub, Nat.reduceLeDiff, Nat.reduceEqDiff, ↓reduceIte, reduceCtorEq, Nat.reduceLT, Nat.reducePow, Nat.reduceDiv, Nat.reduceMod, Nat.reduceBEq, Int.reduceLT, Int.reduceLE, Int.reduceToNat, Int.reduceAdd, Int.reduceSub, Int.reduceNeg]) ?_
           exact ⟨by simp, by simp [names, hN]⟩)
    · have hi5 : i = 4 := by omega
      have hdone := cA_done b t ht1
      rw [wB, ← hcd] at hdone
      rw [hi5, List.take_of_length_le (by omega), hdone]
      repeat' (first
    | (with_reducible apply W_seq_k; intro nx hnx)
    | (with_reducible first | refine wr 29364189 ?_ | refine wd (id := 11) 29364189 1 (.op 0 true (.op 1 true (.op 2 true (.op 3 true (.op 4 true (.op 5 true (.op 6 true (.op 7 true (.op 8 true (.op 9 true (.done))))))))))) (by kernel_rfl) ?_ | refine wd (id := 14) 29364189 1 (.op 0 true (.op 1 true (.op 2 true (.op 3 true (.op 4 true (.op 5 true (.op 6 true (.op 7 true (.op 8 true (.op 9 true (.op 10 true (.op 11 true (.op 12 true (.op 13 true (.op 14 true (.op 15 false (.done))))))))))))))))) (by kernel_rfl) ?_)
    | ((with_reducible first | (apply WL_op; intro nx hnx) | refine Ev_out ?_ | refine wc ?_ | (apply popsD_op; intro nx hnx) | (refine popsD_alt ?_ ?_; intro nx hnx) | (refine pf hnm fun nm hnm => ?_; try simp only [fmb] at hnm) | (refine pm hnm fun nm hnm => ?_; try simp only [fmb] at hnm)); try (simp (maxSteps := 2000000) (disch := omega) only [ev, ↓evp, PV.cells, PV.one, PV.mem?, Value.cells, Nat.reduceAdd, Nat.reduceMul, Nat.reduceSub, Nat.reduceLeDiff, Nat.reduceEqDiff, ↓reduceIte, reduceCtorEq, Nat.reduceLT, Nat.reducePow, Nat.reduceDiv, Nat.reduceMod, Nat.reduceBEq, Int.reduceLT, Int.reduceLE, Int.reduceToNat, Int.reduceAdd, Int.reduceSub, Int.reduceNeg, hnm, Tryd.tf0, Tryd.tf3, Tryd.tf4, Tryd.tf5, Tryd.tf27, Tryd.tf74, Tryd.tf131, Tryd.tf132, Tryd.call91, hN1, hN4]))
    | ((with_reducible first | apply W_block | apply W_scope | apply WL_nil | apply W_label | apply W_skip | apply W_exit | apply W_ret | apply popsD_done | exact popsD_stop) <;> try simp only [kks, Nat.reduceAdd, Nat.reduceMul, Nat.reduceSub, Nat.reduceLeDiff, Nat.reduceEqDiff, ↓reduceIte, reduceCtorEq, Nat.reduceLT, Nat.reducePow, Nat.reduceDiv, Nat.reduceMod, Nat.reduceBEq, Int.reduceLT, Int.reduceLE, Int.reduceToNat, Int.reduceAdd, Int.reduceSub, Int.reduceNeg])
    | (with_reducible apply pg <;> (intro hc; (try simp only [hcb, Nat.reduceAdd, Nat.reduceMul, Nat.reduceSub, Nat.reduceLeDiff, Nat.reduceEqDiff, ↓reduceIte, reduceCtorEq, Nat.reduceLT, Nat.reducePow, Nat.reduceDiv, Nat.reduceMod, Nat.reduceBEq, Int.reduceLT, Int.reduceLE, Int.reduceToNat, Int.reduceAdd, Int.reduceSub, Int.reduceNeg, ne_eq, forall_const] at hc); first | (exfalso; omega) | exact absurd trivial hc | skip))
    | (with_reducible apply hnx; clear hnx nx)
    | (with_reducible refine And.intro (by omega) ?_)
    | (with_reducible refine And.intro ?_ ?_)
    | (clear hnx nx; with_reducible apply hnx; clear hnx nx)
    | (clear hnx nx; clear hnx nx; with_reducible apply hnx; clear hnx nx))
      all_goals first
        | (exfalso
           omega)
        | (refine hlp _ (64 - (t + 1)) _ (by omega) ?_ ⟨t + 1, by omega, rfl, rfl⟩
           refine Wk_fr (by simp only [wkb, Nat.reduceAdd, Nat.reduceMul, Nat.reduceSub, Nat.reduceLeDiff, Nat.reduceEqDiff, ↓reduceIte, reduceCtorEq, Nat.reduceLT, Nat.reducePow, Nat.reduceDiv, Nat.reduceMod, Nat.reduceBEq, Int.reduceLT, Int.reduceLE, Int.reduceToNat, Int.reduceAdd, Int.reduceSub, Int.reduceNeg]) ?_
           exact ⟨by simp, by simp [names, hN]⟩)
  · by_cases ht2 : t < 64
    · have g15 := cW_get b t (t - 15) (by omega)
      have g2 := cW_get b t (t - 2) (by omega)
      have g16 := cW_get b t (t - 16) (by omega)
      have g7 := cW_get b t (t - 7) (by omega)
      have hnx : nxt b (WLs b t) t = (WLs b t).getD (t - 16) 0 + S0 ((WLs b t).getD (t - 15) 0) + (WLs b t).getD (t - 7) 0 + S1 ((WLs b t).getD (t - 2) 0) := by rw [nxt, if_neg ht1]
      have hset := cW_set b t ht2
      obtain ⟨p, hp⟩ : ∃ p, p = (WLs b t).getD (t - 15) 0 := ⟨_, rfl⟩
      obtain ⟨q, hq⟩ : ∃ p, p = (WLs b t).getD (t - 2) 0 := ⟨_, rfl⟩
      obtain ⟨u, hu⟩ : ∃ p, p = (WLs b t).getD (t - 16) 0 := ⟨_, rfl⟩
      obtain ⟨v, hv⟩ : ∃ p, p = (WLs b t).getD (t - 7) 0 := ⟨_, rfl⟩
      rw [← hp, ← hq, ← hu, ← hv] at hnx
      rw [← hp] at g15
      rw [← hq] at g2
      rw [← hu] at g16
      rw [← hv] at g7
      rw [hnx] at hset
      have i15 : ((t : Int) - 15).toNat = t - 15 := by omega
      have i2 : ((t : Int) - 2).toNat = t - 2 := by omega
      have i16 : ((t : Int) - 16).toNat = t - 16 := by omega
      have i7 : ((t : Int) - 7).toNat = t - 7 := by omega
      have hr3 := w_shr p 3 (by omega)
      have hr10 := w_shr q 10 (by omega)
      have hS0 : R p 7 ^^^ R p 18 ^^^ (p >>> UInt32.ofNat 3) = S0 p := rfl
      have hS1 : R q 17 ^^^ R q 19 ^^^ (q >>> UInt32.ofNat 10) = S1 q := rfl
      repeat' (first
    | (with_reducible apply W_seq_k; intro nx hnx)
    | (with_reducible first | refine wr 29364189 ?_ | refine wd (id := 11) 29364189 1 (.op 0 true (.op 1 true (.op 2 true (.op 3 true (.op 4 true (.op 5 true (.op 6 true (.op 7 true (.op 8 true (.op 9 true (.done))))))))))) (by kernel_rfl) ?_ | refine wd (id := 14) 29364189 1 (.op 0 true (.op 1 true (.op 2 true (.op 3 true (.op 4 true (.op 5 true (.op 6 true (.op 7 true (.op 8 true (.op 9 true (.op 10 true (.op 11 true (.op 12 true (.op 13 true (.op 14 true (.op 15 false (.done))))))))))))))))) (by kernel_rfl) ?_)
    | ((with_reducible first | (apply WL_op; intro nx hnx) | refine Ev_out ?_ | refine wc ?_ | (apply popsD_op; intro nx hnx) | (refine popsD_alt ?_ ?_; intro nx hnx) | (refine pf hnm fun nm hnm => ?_; try simp only [fmb] at hnm) | (refine pm hnm fun nm hnm => ?_; try simp only [fmb] at hnm)); try (simp (maxSteps := 2000000) (disch := omega) only [ev, ↓evp, PV.cells, PV.one, PV.mem?, Value.cells, Nat.reduceAdd, Nat.reduceMul, Nat.reduceSub, Nat.reduceLeDiff, Nat.reduceEqDiff, ↓reduceIte, reduceCtorEq, Nat.reduceLT, Nat.reducePow, Nat.reduceDiv, Nat.reduceMod, Nat.reduceBEq, Int.reduceLT, Int.reduceLE, Int.reduceToNat, Int.reduceAdd, Int.reduceSub, Int.reduceNeg, hnm, Tryd.tf0, Tryd.tf3, Tryd.tf4, Tryd.tf5, Tryd.tf27, Tryd.tf74, Tryd.tf131, Tryd.tf132, Tryd.call91, hN1, hN4, hcl, g15, g2, g16, g7, i15, i2, i16, i7, hr3, hr10, w_xor, w_add, hS0, hS1, hset]))
    | ((with_reducible first | apply W_block | apply W_scope | apply WL_nil | apply W_label | apply W_skip | apply W_exit | apply W_ret | apply popsD_done | exact popsD_stop) <;> try simp only [kks, Nat.reduceAdd, Nat.reduceMul, Nat.reduceSub, Nat.reduceLeDiff, Nat.reduceEqDiff, ↓reduceIte, reduceCtorEq, Nat.reduceLT, Nat.reducePow, Nat.reduceDiv, Nat.reduceMod, Nat.reduceBEq, Int.reduceLT, Int.reduceLE, Int.reduceToNat, Int.reduceAdd, Int.reduceSub, Int.reduceNeg])
    | (with_reducible apply pg <;> (intro hc; (try simp only [hcb, Nat.reduceAdd, Nat.reduceMul, Nat.reduceSub, Nat.reduceLeDiff, Nat.reduceEqDiff, ↓reduceIte, reduceCtorEq, Nat.reduceLT, Nat.reducePow, Nat.reduceDiv, Nat.reduceMod, Nat.reduceBEq, Int.reduceLT, Int.reduceLE, Int.reduceToNat, Int.reduceAdd, Int.reduceSub, Int.reduceNeg, ne_eq, forall_const] at hc); first | (exfalso; omega) | exact absurd trivial hc | skip))
    | (with_reducible apply hnx; clear hnx nx)
    | (with_reducible refine And.intro (by omega) ?_)
    | (with_reducible refine And.intro ?_ ?_)
    | (with_reducible refine pe (rot_k G p (-7) 7 (by decide) (by decide) (by decide)) ?_)
    | (with_reducible refine pe (rot_k G p (-18) 18 (by decide) (by decide) (by decide)) ?_)
    | (with_reducible refine pe (rot_k G q (-17) 17 (by decide) (by decide) (by decide)) ?_)
    | (with_reducible refine pe (rot_k G q (-19) 19 (by decide) (by decide) (by decide)) ?_)
    | (clear hnx nx; with_reducible apply hnx; clear hnx nx)
    | (clear hnx nx; clear hnx nx; with_reducible apply hnx; clear hnx nx))
      all_goals first
        | (exfalso
           omega)
        | (refine hlp _ (64 - (t + 1)) _ (by omega) ?_ ⟨t + 1, by omega, rfl, rfl⟩
           refine Wk_fr (by simp only [wkb, Nat.reduceAdd, Nat.reduceMul, Nat.reduceSub, Nat.reduceLeDiff, Nat.reduceEqDiff, ↓reduceIte, reduceCtorEq, Nat.reduceLT, Nat.reducePow, Nat.reduceDiv, Nat.reduceMod, Nat.reduceBEq, Int.reduceLT, Int.reduceLE, Int.reduceToNat, Int.reduceAdd, Int.reduceSub, Int.reduceNeg]) ?_
           exact ⟨by simp, by simp [names, hN]⟩)
    · have ht64 : t = 64 := by omega
      subst ht64
      have hcf := cW_full b
      have hone := all_one_pw (WLs b 64)
      have hwl := WLs_len b 64
      have hc0 := cW_len b 0
      have htk : List.take 64 ((WLs b 64).map pw) = (WLs b 64).map pw := List.take_of_length_le (by simp [hwl])
      have hdr : List.drop 64 (cW b 0) = [] := List.drop_of_length_le (by omega)
      rw [hcf]
      repeat' (first
    | (with_reducible apply W_seq_k; intro nx hnx)
    | (with_reducible first | refine wr 29364189 ?_ | refine wd (id := 11) 29364189 1 (.op 0 true (.op 1 true (.op 2 true (.op 3 true (.op 4 true (.op 5 true (.op 6 true (.op 7 true (.op 8 true (.op 9 true (.done))))))))))) (by kernel_rfl) ?_ | refine wd (id := 14) 29364189 1 (.op 0 true (.op 1 true (.op 2 true (.op 3 true (.op 4 true (.op 5 true (.op 6 true (.op 7 true (.op 8 true (.op 9 true (.op 10 true (.op 11 true (.op 12 true (.op 13 true (.op 14 true (.op 15 false (.done))))))))))))))))) (by kernel_rfl) ?_)
    | ((with_reducible first | (apply WL_op; intro nx hnx) | refine Ev_out ?_ | refine wc ?_ | (apply popsD_op; intro nx hnx) | (refine popsD_alt ?_ ?_; intro nx hnx) | (refine pf hnm fun nm hnm => ?_; try simp only [fmb] at hnm) | (refine pm hnm fun nm hnm => ?_; try simp only [fmb] at hnm)); try (simp (maxSteps := 2000000) (disch := omega) only [ev, ↓evp, PV.cells, PV.one, PV.mem?, Value.cells, Nat.reduceAdd, Nat.reduceMul, Nat.reduceSub, Nat.reduceLeDiff, Nat.reduceEqDiff, ↓reduceIte, reduceCtorEq, Nat.reduceLT, Nat.reducePow, Nat.reduceDiv, Nat.reduceMod, Nat.reduceBEq, Int.reduceLT, Int.reduceLE, Int.reduceToNat, Int.reduceAdd, Int.reduceSub, Int.reduceNeg, hnm, Tryd.tf0, Tryd.tf3, Tryd.tf4, Tryd.tf5, Tryd.tf27, Tryd.tf74, Tryd.tf131, Tryd.tf132, Tryd.call91, hN1, hN4, hwl, htk, hone, hc0, hdr, Nat.min_self]))
    | ((with_reducible first | apply W_block | apply W_scope | apply WL_nil | apply W_label | apply W_skip | apply W_exit | apply W_ret | apply popsD_done | exact popsD_stop) <;> try simp only [kks, Nat.reduceAdd, Nat.reduceMul, Nat.reduceSub, Nat.reduceLeDiff, Nat.reduceEqDiff, ↓reduceIte, reduceCtorEq, Nat.reduceLT, Nat.reducePow, Nat.reduceDiv, Nat.reduceMod, Nat.reduceBEq, Int.reduceLT, Int.reduceLE, Int.reduceToNat, Int.reduceAdd, Int.reduceSub, Int.reduceNeg])
    | (with_reducible apply pg <;> (intro hc; (try simp only [hcb, Nat.reduceAdd, Nat.reduceMul, Nat.reduceSub, Nat.reduceLeDiff, Nat.reduceEqDiff, ↓reduceIte, reduceCtorEq, Nat.reduceLT, Nat.reducePow, Nat.reduceDiv, Nat.reduceMod, Nat.reduceBEq, Int.reduceLT, Int.reduceLE, Int.reduceToNat, Int.reduceAdd, Int.reduceSub, Int.reduceNeg, ne_eq, forall_const] at hc); first | (exfalso; omega) | exact absurd trivial hc | skip))
    | (with_reducible apply hnx; clear hnx nx)
    | (with_reducible refine And.intro (by omega) ?_)
    | (with_reducible refine And.intro ?_ ?_)
    | (clear hnx nx; with_reducible apply hnx; clear hnx nx)
    | (clear hnx nx; clear hnx nx; with_reducible apply hnx; clear hnx nx))
      refine hfin _ _ (Fin_cell (res := .agg ((WLs b 64).map pw)) Tryd.tf132 (n := N2) (off := 0) (o := ⟨132, false, 0, (WLs b 64).map pw⟩) (by simp only [fr_getD_cons, Nat.reduceEqDiff, Nat.reduceLT, ↓reduceIte]) (by simp [look, hN1]) ?_ (Sub_nil _) ⟨rfl, rfl⟩)
      simp [pload, hwl, htk, hone]
end Go.PM

namespace Go.PM
open Go.Proofs
attribute [local irreducible] W PCalls pcall pcallI WL
/-- The constants of the rounds. -/
def KS : List UInt32 := [1116352408, 1899447441, 3049323471, 3921009573, 961987163, 1508970993, 2453635748, 2870763221, 3624381080, 310598401, 607225278, 1426881987, 1925078388, 2162078206, 2614888103, 3248222580, 3835390401, 4022224774, 264347078, 604807628, 770255983, 1249150122, 1555081692, 1996064986, 2554220882, 2821834349, 2952996808, 3210313671, 3336571891, 3584528711, 113926993, 338241895, 666307205, 773529912, 1294757372, 1396182291, 1695183700, 1986661051, 2177026350, 2456956037, 2730485921, 2820302411, 3259730800, 3345764771, 3516065817, 3600352804, 4094571909, 275423344, 430227734, 506948616, 659060556, 883997877, 958139571, 1322822218, 1537002063, 1747873779, 1955562222, 2024104815, 2227730452, 2361852424, 2428436474, 2756734187, 3204031479, 3329325298]
def chW (x y z : UInt32) : UInt32 := (x &&& y) ^^^ ((x ^^^ 4294967295) &&& z)
def maW (x y z : UInt32) : UInt32 := (x &&& y) ^^^ (x &&& z) ^^^ (y &&& z)
def xW (e0 e1 e2 e3 k w : UInt32) : UInt32 := e3 + Mx e0 6 11 25 + chW e0 e1 e2 + k + w
def yW (v0 v1 v2 : UInt32) : UInt32 := Mx v0 2 13 22 + maW v0 v1 v2
/-- A round. -/
def rnd (k w : UInt32) : List UInt32 → List UInt32
  | [v0, v1, v2, v3, e0, e1, e2, e3] => [xW e0 e1 e2 e3 k w + yW v0 v1 v2, v0, v1, v2, v3 + xW e0 e1 e2 e3 k w, e0, e1, e2]
  | s => s
def rds (w s : List UInt32) : Nat → List UInt32
  | 0 => s
  | t + 1 => rnd (KS.getD t 0) (w.getD t 0) (rds w s t)
/-- What a block makes of the state. -/
def comp (s : List UInt32) (b : List UInt8) : List UInt32 := List.zipWith (· + ·) s (rds (WLs b 64) s 64)
theorem rnd_len (k w : UInt32) (s : List UInt32) (h : s.length = 8) : (rnd k w s).length = 8 := by
  match s, h with
  | [v0, v1, v2, v3, e0, e1, e2, e3], _ => rfl
theorem rds_len (w s : List UInt32) (h : s.length = 8) : ∀ t, (rds w s t).length = 8
  | 0 => h
  | t + 1 => rnd_len _ _ _ (rds_len w s h t)
theorem comp_len (s : List UInt32) (b : List UInt8) (h : s.length = 8) : (comp s b).length = 8 := by
  rw [comp, List.length_zipWith, h, rds_len _ _ h]
  rfl
theorem list8 {l : List UInt32} (h : l.length = 8) : ∃ a b c d e f g i, l = [a, b, c, d, e, f, g, i] := by
  match l, h with
  | [a, b, c, d, e, f, g, i], _ => exact ⟨a, b, c, d, e, f, g, i, rfl⟩
theorem KS_len : KS.length = 64 := rfl
set_option maxRecDepth 100000 in
set_option maxHeartbeats 8000000 in
theorem compress_c (G : Globs) (hG : G 0 = .iptr (KS.map pw) 0) (s : List UInt32) (hs : s.length = 8) (b : List UInt8) (hb : b.length = 64) : PCalls Tryd.prog G 64 [.agg (s.map pw), .list 1 (b.map pbyte)] [] (fun res H => res = .agg ((comp s b).map pw) ∧ H = []) := by
  have hcomp : comp s b = List.zipWith (· + ·) s (rds (WLs b 64) s 64) := rfl
  have hwl := WLs_len b 64
  obtain ⟨w, hw⟩ : ∃ w, w = WLs b 64 := ⟨_, rfl⟩
  have hsch := sched_c G b hb
  rw [← hw] at hwl hcomp hsch
  have hwm : (w.map pw).length = 64 := by rw [List.length_map, hwl]
  have hwt : List.take 64 (w.map pw) = w.map pw := List.take_of_length_le (by omega)
  have hw1 := all_one_pw w
  have hk1 := all_one_pw KS
  have hkl := KS_len
  have hkt : List.take 64 (KS.map pw) = KS.map pw := List.take_of_length_le (by rw [List.length_map]; decide)
  have hrl := rds_len w s hs
  have hr0 : rds w s 0 = s := rfl
  have hrs : ∀ t, rds w s (t + 1) = rnd (KS.getD t 0) (w.getD t 0) (rds w s t) := fun _ => rfl
  obtain ⟨s0, s1, s2, s3, s4, s5, s6, s7, rfl⟩ := list8 hs
  generalize KS = ks at *
  simp only [List.map_cons, List.map_nil]
  (refine PCalls_f Tryd.func64 rfl Tryd.ntmps64 Tryd.results64 (by simp) fun fin hfin => ?_; have hnm : True := trivial; simp only [ev, Nat.reduceAdd, Nat.reduceMul, Nat.reduceSub, Nat.reduceLeDiff, Nat.reduceEqDiff, ↓reduceIte, reduceCtorEq, Nat.reduceLT, Nat.reducePow, Nat.reduceDiv, Nat.reduceMod, Nat.reduceBEq, Int.reduceLT, Int.reduceLE, Int.reduceToNat, Int.reduceAdd, Int.reduceSub, Int.reduceNeg])
  repeat' (first
    | (with_reducible apply W_seq_k; intro nx hnx)
    | (with_reducible first | refine wr 19807040628566084398392287223 ?_ | refine wd (id := 2) 19807040628566084398392287223 1 (.op 0 true (.op 1 true (.op 2 true (.alt 3 true (.alt 4 true (.alt 5 true (.alt 6 true (.op 7 true (.op 8 false (.op 9 false (.done)))) (.alt 7 true (.op 6 true (.op 8 false (.op 9 false (.done)))) .stop)) (.alt 6 true (.alt 5 true (.op 7 true (.op 8 false (.op 9 false (.done)))) (.alt 7 true (.alt 5 true (.op 8 false (.op 9 false (.done))) (.alt 8 false (.alt 5 true (.op 9 false (.done)) .stop) .stop)) .stop)) (.alt 7 true (.alt 5 true (.op 6 true (.op 8 false (.op 9 false (.done)))) (.alt 6 true (.alt 5 true (.op 8 false (.op 9 false (.done))) (.alt 8 false (.alt 5 true (.op 9 false (.done)) .stop) .stop)) .stop)) .stop))) (.alt 6 true (.alt 4 true (.alt 5 true (.op 7 true (.op 8 false (.op 9 false (.done)))) (.alt 7 true (.alt 5 true (.op 8 false (.op 9 false (.done))) (.alt 8 false (.alt 5 true (.op 9 false (.done)) .stop) .stop)) .stop)) (.alt 7 true (.alt 4 true (.alt 5 true (.op 8 false (.op 9 false (.done))) (.alt 8 false (.alt 5 true (.op 9 false (.done)) .stop) .stop)) (.alt 8 false (.alt 4 true (.alt 5 true (.op 9 false (.done)) .stop) .stop) .stop)) .stop)) (.alt 7 true (.alt 4 true (.alt 5 true (.op 6 true (.op 8 false (.op 9 false (.done)))) (.alt 6 true (.alt 5 true (.op 8 false (.op 9 false (.done))) (.alt 8 false (.alt 5 true (.op 9 false (.done)) .stop) .stop)) .stop)) (.alt 6 true (.alt 4 true (.alt 5 true (.op 8 false (.op 9 false (.done))) (.alt 8 false (.alt 5 true (.op 9 false (.done)) .stop) .stop)) (.alt 8 false (.alt 4 true (.alt 5 true (.op 9 false (.done)) .stop) .stop) .stop)) .stop)) .stop))) (.alt 6 true (.alt 3 true (.alt 4 true (.alt 5 true (.op 7 true (.op 8 false (.op 9 false (.done)))) (.alt 7 true (.alt 5 true (.op 8 false (.op 9 false (.done))) (.alt 8 false (.alt 5 true (.op 9 false (.done)) .stop) .stop)) .stop)) (.alt 7 true (.alt 4 true (.alt 5 true (.op 8 false (.op 9 false (.done))) (.alt 8 false (.alt 5 true (.op 9 false (.done)) .stop) .stop)) (.alt 8 false (.alt 4 true (.alt 5 true (.op 9 false (.done)) .stop) .stop) .stop)) .stop)) (.alt 7 true (.alt 3 true (.alt 4 true (.alt 5 true (.op 8 false (.op 9 false (.done))) (.alt 8 false (.alt 5 true (.op 9 false (.done)) .stop) .stop)) (.alt 8 false (.alt 4 true (.alt 5 true (.op 9 false (.done)) .stop) .stop) .stop)) (.alt 8 false (.alt 3 true (.alt 4 true (.alt 5 true (.op 9 false (.done)) .stop) .stop) .stop) .stop)) .stop)) (.alt 7 true (.alt 3 true (.alt 4 true (.alt 5 true (.op 6 true (.op 8 false (.op 9 false (.done)))) (.alt 6 true (.alt 5 true (.op 8 false (.op 9 false (.done))) (.alt 8 false (.alt 5 true (.op 9 false (.done)) .stop) .stop)) .stop)) (.alt 6 true (.alt 4 true (.alt 5 true (.op 8 false (.op 9 false (.done))) (.alt 8 false (.alt 5 true (.op 9 false (.done)) .stop) .stop)) (.alt 8 false (.alt 4 true (.alt 5 true (.op 9 false (.done)) .stop) .stop) .stop)) .stop)) (.alt 6 true (.alt 3 true (.alt 4 true (.alt 5 true (.op 8 false (.op 9 false (.done))) (.alt 8 false (.alt 5 true (.op 9 false (.done)) .stop) .stop)) (.alt 8 false (.alt 4 true (.alt 5 true (.op 9 false (.done)) .stop) .stop) .stop)) (.alt 8 false (.alt 3 true (.alt 4 true (.alt 5 true (.op 9 false (.done)) .stop) .stop) .stop) .stop)) .stop)) .stop)))))) (by kernel_rfl) ?_ | refine wd (id := 6) 19807040628566084398392287223 1 (.op 0 true (.op 1 true (.op 2 true (.op 3 true (.op 6 true (.op 7 true (.op 8 true (.op 9 true (.op 10 true (.op 11 true (.op 12 true (.op 13 true (.op 14 true (.op 15 true (.op 16 true (.op 17 true (.op 19 true (.op 21 true (.op 22 true (.op 23 true (.op 4 true (.op 5 true (.op 18 true (.op 20 true (.op 24 true (.op 25 true (.done))))))))))))))))))))))))))) (by kernel_rfl) ?_ | refine wd (id := 7) 19807040628566084398392287223 1 (.op 0 true (.op 1 true (.op 3 true (.op 4 true (.op 5 true (.op 6 true (.op 7 true (.op 8 true (.op 9 true (.op 10 true (.op 11 true (.op 12 true (.op 13 true (.op 14 true (.op 15 true (.op 16 true (.op 17 true (.op 18 true (.op 19 true (.op 2 true (.op 20 true (.op 21 true (.done))))))))))))))))))))))) (by kernel_rfl) ?_ | refine wd (id := 14) 19807040628566084398392287223 1 (.op 0 true (.op 1 true (.op 2 true (.op 3 true (.op 4 true (.op 5 true (.op 6 true (.op 7 true (.op 8 false (.done)))))))))) (by kernel_rfl) ?_ | refine wd (id := 15) 19807040628566084398392287223 1 (.op 0 true (.op 1 true (.op 2 true (.op 3 true (.op 4 true (.op 5 true (.op 6 true (.op 7 true (.op 8 true (.op 9 false (.done))))))))))) (by kernel_rfl) ?_)
    | ((with_reducible first | (apply WL_op; intro nx hnx) | refine Ev_out ?_ | refine wc ?_ | (apply popsD_op; intro nx hnx) | (refine popsD_alt ?_ ?_; intro nx hnx) | (refine pf hnm fun nm hnm => ?_; try simp only [fmb] at hnm) | (refine pm hnm fun nm hnm => ?_; try simp only [fmb] at hnm)); try (simp (maxSteps := 2000000) (disch := omega) only [ev, ↓evp, PV.cells, PV.one, PV.mem?, Value.cells, Nat.reduceAdd, Nat.reduceMul, Nat.reduceSub, Nat.reduceLeDiff, Nat.reduceEqDiff, ↓reduceIte, reduceCtorEq, Nat.reduceLT, Nat.reducePow, Nat.reduceDiv, Nat.reduceMod, Nat.reduceBEq, Int.reduceLT, Int.reduceLE, Int.reduceToNat, Int.reduceAdd, Int.reduceSub, Int.reduceNeg, hnm, Tryd.tf0, Tryd.tf3, Tryd.tf5, Tryd.tf27, Tryd.tf74, Tryd.tf75, Tryd.tf132, Tryd.tf134, Tryd.tf135, Tryd.call79, Tryd.call80]))
    | ((with_reducible first | apply W_block | apply W_scope | apply WL_nil | apply W_label | apply W_skip | apply W_exit | apply W_ret | apply popsD_done | exact popsD_stop) <;> try simp only [kks, Nat.reduceAdd, Nat.reduceMul, Nat.reduceSub, Nat.reduceLeDiff, Nat.reduceEqDiff, ↓reduceIte, reduceCtorEq, Nat.reduceLT, Nat.reducePow, Nat.reduceDiv, Nat.reduceMod, Nat.reduceBEq, Int.reduceLT, Int.reduceLE, Int.reduceToNat, Int.reduceAdd, Int.reduceSub, Int.reduceNeg])
    | (with_reducible apply pg <;> (intro hc; (try simp only [hcb, Nat.reduceAdd, Nat.reduceMul, Nat.reduceSub, Nat.reduceLeDiff, Nat.reduceEqDiff, ↓reduceIte, reduceCtorEq, Nat.reduceLT, Nat.reducePow, Nat.reduceDiv, Nat.reduceMod, Nat.reduceBEq, Int.reduceLT, Int.reduceLE, Int.reduceToNat, Int.reduceAdd, Int.reduceSub, Int.reduceNeg, ne_eq, forall_const] at hc); first | (exfalso; omega) | exact absurd trivial hc | skip))
    | (with_reducible apply hnx; clear hnx nx)
    | (with_reducible refine And.intro (by omega) ?_)
    | (with_reducible refine And.intro ?_ ?_)
    | (clear hnx nx; with_reducible apply hnx; clear hnx nx)
    | (clear hnx nx; clear hnx nx; with_reducible apply hnx; clear hnx nx))
  refine pcall_k hsch ?_
  rintro _ _ ⟨rfl, rfl⟩ -
  refine Ev_in ?_
  repeat' (first
    | (with_reducible first | refine wr 19807040628566084398392287223 ?_ | refine wd (id := 2) 19807040628566084398392287223 1 (.op 0 true (.op 1 true (.op 2 true (.alt 3 true (.alt 4 true (.alt 5 true (.alt 6 true (.op 7 true (.op 8 false (.op 9 false (.done)))) (.alt 7 true (.op 6 true (.op 8 false (.op 9 false (.done)))) .stop)) (.alt 6 true (.alt 5 true (.op 7 true (.op 8 false (.op 9 false (.done)))) (.alt 7 true (.alt 5 true (.op 8 false (.op 9 false (.done))) (.alt 8 false (.alt 5 true (.op 9 false (.done)) .stop) .stop)) .stop)) (.alt 7 true (.alt 5 true (.op 6 true (.op 8 false (.op 9 false (.done)))) (.alt 6 true (.alt 5 true (.op 8 false (.op 9 false (.done))) (.alt 8 false (.alt 5 true (.op 9 false (.done)) .stop) .stop)) .stop)) .stop))) (.alt 6 true (.alt 4 true (.alt 5 true (.op 7 true (.op 8 false (.op 9 false (.done)))) (.alt 7 true (.alt 5 true (.op 8 false (.op 9 false (.done))) (.alt 8 false (.alt 5 true (.op 9 false (.done)) .stop) .stop)) .stop)) (.alt 7 true (.alt 4 true (.alt 5 true (.op 8 false (.op 9 false (.done))) (.alt 8 false (.alt 5 true (.op 9 false (.done)) .stop) .stop)) (.alt 8 false (.alt 4 true (.alt 5 true (.op 9 false (.done)) .stop) .stop) .stop)) .stop)) (.alt 7 true (.alt 4 true (.alt 5 true (.op 6 true (.op 8 false (.op 9 false (.done)))) (.alt 6 true (.alt 5 true (.op 8 false (.op 9 false (.done))) (.alt 8 false (.alt 5 true (.op 9 false (.done)) .stop) .stop)) .stop)) (.alt 6 true (.alt 4 true (.alt 5 true (.op 8 false (.op 9 false (.done))) (.alt 8 false (.alt 5 true (.op 9 false (.done)) .stop) .stop)) (.alt 8 false (.alt 4 true (.alt 5 true (.op 9 false (.done)) .stop) .stop) .stop)) .stop)) .stop))) (.alt 6 true (.alt 3 true (.alt 4 true (.alt 5 true (.op 7 true (.op 8 false (.op 9 false (.done)))) (.alt 7 true (.alt 5 true (.op 8 false (.op 9 false (.done))) (.alt 8 false (.alt 5 true (.op 9 false (.done)) .stop) .stop)) .stop)) (.alt 7 true (.alt 4 true (.alt 5 true (.op 8 false (.op 9 false (.done))) (.alt 8 false (.alt 5 true (.op 9 false (.done)) .stop) .stop)) (.alt 8 false (.alt 4 true (.alt 5 true (.op 9 false (.done)) .stop) .stop) .stop)) .stop)) (.alt 7 true (.alt 3 true (.alt 4 true (.alt 5 true (.op 8 false (.op 9 false (.done))) (.alt 8 false (.alt 5 true (.op 9 false (.done)) .stop) .stop)) (.alt 8 false (.alt 4 true (.alt 5 true (.op 9 false (.done)) .stop) .stop) .stop)) (.alt 8 false (.alt 3 true (.alt 4 true (.alt 5 true (.op 9 false (.done)) .stop) .stop) .stop) .stop)) .stop)) (.alt 7 true (.alt 3 true (.alt 4 true (.alt 5 true (.op 6 true (.op 8 false (.op 9 false (.done)))) (.alt 6 true (.alt 5 true (.op 8 false (.op 9 false (.done))) (.alt 8 false (.alt 5 true (.op 9 false (.done)) .stop) .stop)) .stop)) (.alt 6 true (.alt 4 true (.alt 5 true (.op 8 false (.op 9 false (.done))) (.alt 8 false (.alt 5 true (.op 9 false (.done)) .stop) .stop)) (.alt 8 false (.alt 4 true (.alt 5 true (.op 9 false (.done)) .stop) .stop) .stop)) .stop)) (.alt 6 true (.alt 3 true (.alt 4 true (.alt 5 true (.op 8 false (.op 9 false (.done))) (.alt 8 false (.alt 5 true (.op 9 false (.done)) .stop) .stop)) (.alt 8 false (.alt 4 true (.alt 5 true (.op 9 false (.done)) .stop) .stop) .stop)) (.alt 8 false (.alt 3 true (.alt 4 true (.alt 5 true (.op 9 false (.done)) .stop) .stop) .stop) .stop)) .stop)) .stop)))))) (by kernel_rfl) ?_ | refine wd (id := 6) 19807040628566084398392287223 1 (.op 0 true (.op 1 true (.op 2 true (.op 3 true (.op 6 true (.op 7 true (.op 8 true (.op 9 true (.op 10 true (.op 11 true (.op 12 true (.op 13 true (.op 14 true (.op 15 true (.op 16 true (.op 17 true (.op 19 true (.op 21 true (.op 22 true (.op 23 true (.op 4 true (.op 5 true (.op 18 true (.op 20 true (.op 24 true (.op 25 true (.done))))))))))))))))))))))))))) (by kernel_rfl) ?_ | refine wd (id := 7) 19807040628566084398392287223 1 (.op 0 true (.op 1 true (.op 3 true (.op 4 true (.op 5 true (.op 6 true (.op 7 true (.op 8 true (.op 9 true (.op 10 true (.op 11 true (.op 12 true (.op 13 true (.op 14 true (.op 15 true (.op 16 true (.op 17 true (.op 18 true (.op 19 true (.op 2 true (.op 20 true (.op 21 true (.done))))))))))))))))))))))) (by kernel_rfl) ?_ | refine wd (id := 14) 19807040628566084398392287223 1 (.op 0 true (.op 1 true (.op 2 true (.op 3 true (.op 4 true (.op 5 true (.op 6 true (.op 7 true (.op 8 false (.done)))))))))) (by kernel_rfl) ?_ | refine wd (id := 15) 19807040628566084398392287223 1 (.op 0 true (.op 1 true (.op 2 true (.op 3 true (.op 4 true (.op 5 true (.op 6 true (.op 7 true (.op 8 true (.op 9 false (.done))))))))))) (by kernel_rfl) ?_)
    | ((with_reducible first | (apply WL_op; intro nx hnx) | refine Ev_out ?_ | refine wc ?_ | (apply popsD_op; intro nx hnx) | (refine popsD_alt ?_ ?_; intro nx hnx) | (refine pf hnm fun nm hnm => ?_; try simp only [fmb] at hnm) | (refine pm hnm fun nm hnm => ?_; try simp only [fmb] at hnm)); try (simp (maxSteps := 2000000) (disch := omega) only [ev, ↓evp, PV.cells, PV.one, PV.mem?, Value.cells, Nat.reduceAdd, Nat.reduceMul, Nat.reduceSub, Nat.reduceLeDiff, Nat.reduceEqDiff, ↓reduceIte, reduceCtorEq, Nat.reduceLT, Nat.reducePow, Nat.reduceDiv, Nat.reduceMod, Nat.reduceBEq, Int.reduceLT, Int.reduceLE, Int.reduceToNat, Int.reduceAdd, Int.reduceSub, Int.reduceNeg, hnm, Tryd.tf0, Tryd.tf3, Tryd.tf5, Tryd.tf27, Tryd.tf74, Tryd.tf75, Tryd.tf132, Tryd.tf134, Tryd.tf135, Tryd.call79, Tryd.call80, hwm, hwl, hwt, hw1]))
    | ((with_reducible first | apply W_block | apply W_scope | apply WL_nil | apply W_label | apply W_skip | apply W_exit | apply W_ret | apply popsD_done | exact popsD_stop) <;> try simp only [kks, Nat.reduceAdd, Nat.reduceMul, Nat.reduceSub, Nat.reduceLeDiff, Nat.reduceEqDiff, ↓reduceIte, reduceCtorEq, Nat.reduceLT, Nat.reducePow, Nat.reduceDiv, Nat.reduceMod, Nat.reduceBEq, Int.reduceLT, Int.reduceLE, Int.reduceToNat, Int.reduceAdd, Int.reduceSub, Int.reduceNeg])
    | (with_reducible apply pg <;> (intro hc; (try simp only [hcb, Nat.reduceAdd, Nat.reduceMul, Nat.reduceSub, Nat.reduceLeDiff, Nat.reduceEqDiff, ↓reduceIte, reduceCtorEq, Nat.reduceLT, Nat.reducePow, Nat.reduceDiv, Nat.reduceMod, Nat.reduceBEq, Int.reduceLT, Int.reduceLE, Int.reduceToNat, Int.reduceAdd, Int.reduceSub, Int.reduceNeg, ne_eq, forall_const] at hc); first | (exfalso; omega) | exact absurd trivial hc | skip))
    | (with_reducible apply hnx; clear hnx nx)
    | (with_reducible refine And.intro (by omega) ?_)
    | (with_reducible refine And.intro ?_ ?_)
    | (clear hnx nx; with_reducible apply hnx; clear hnx nx)
    | (clear hnx nx; clear hnx nx; with_reducible apply hnx; clear hnx nx))
  with_reducible apply W_seq_k
  intro nx hnx
  have hnx := W_join hnx (fun τ => ∃ N2 N4 N5 N6 N7 : Int, [N7, N6, N5, N4, N2].Nodup ∧ τ = ⟨fr 116 [(2, .ptr N2 0), (4, .ptr N4 0), (5, .ptr N5 0), (6, .ptr N6 0), (7, .ptr N7 0)],
    [(N7, ⟨134, false, 0, [pw s4, pw s5, pw s6, pw s7]⟩), (N6, ⟨134, false, 0, [pw s0, pw s1, pw s2, pw s3]⟩), (N5, ⟨132, false, 0, w.map pw⟩), (N4, ⟨75, false, 0, [pint .u32 0, pint .u32 0, pint .u32 0, pint .u32 0, pint .u32 0, pint .u32 0, pint .u32 0, pint .u32 0]⟩), (N2, ⟨75, false, 0, [pw s0, pw s1, pw s2, pw s3, pw s4, pw s5, pw s6, pw s7]⟩)]⟩) (by
    clear hnx nx hnm
    rintro τ ⟨N2, N4, N5, N6, N7, hnd, rfl⟩
    have hnd0 := hnd
    simp only [List.nodup_cons, List.mem_cons, List.not_mem_nil, or_false, not_or, List.nodup_nil, and_true, not_false_eq_true] at hnd
    have hnm : ((¬ N7 = N6 ∧ ¬ N7 = N5 ∧ ¬ N7 = N4 ∧ ¬ N7 = N2) ∧ (¬ N6 = N5 ∧ ¬ N6 = N4 ∧ ¬ N6 = N2) ∧ (¬ N5 = N4 ∧ ¬ N5 = N2) ∧ ¬ N4 = N2) ∧ (¬ N6 = N7 ∧ ¬ N5 = N7 ∧ ¬ N4 = N7 ∧ ¬ N2 = N7) ∧ (¬ N5 = N6 ∧ ¬ N4 = N6 ∧ ¬ N2 = N6) ∧ (¬ N4 = N5 ∧ ¬ N2 = N5) ∧ ¬ N2 = N4 :=
      ⟨hnd, ⟨fun e => hnd.1.1 e.symm, fun e => hnd.1.2.1 e.symm, fun e => hnd.1.2.2.1 e.symm, fun e => hnd.1.2.2.2 e.symm⟩, ⟨fun e => hnd.2.1.1 e.symm, fun e => hnd.2.1.2.1 e.symm, fun e => hnd.2.1.2.2 e.symm⟩, ⟨fun e => hnd.2.2.1.1 e.symm, fun e => hnd.2.2.1.2 e.symm⟩, fun e => hnd.2.2.2 e.symm⟩
    repeat' (first
    | (with_reducible apply W_seq_k; intro nx hnx)
    | (with_reducible first | refine wr 19807040628566084398392287223 ?_ | refine wd (id := 2) 19807040628566084398392287223 1 (.op 0 true (.op 1 true (.op 2 true (.alt 3 true (.alt 4 true (.alt 5 true (.alt 6 true (.op 7 true (.op 8 false (.op 9 false (.done)))) (.alt 7 true (.op 6 true (.op 8 false (.op 9 false (.done)))) .stop)) (.alt 6 true (.alt 5 true (.op 7 true (.op 8 false (.op 9 false (.done)))) (.alt 7 true (.alt 5 true (.op 8 false (.op 9 false (.done))) (.alt 8 false (.alt 5 true (.op 9 false (.done)) .stop) .stop)) .stop)) (.alt 7 true (.alt 5 true (.op 6 true (.op 8 false (.op 9 false (.done)))) (.alt 6 true (.alt 5 true (.op 8 false (.op 9 false (.done))) (.alt 8 false (.alt 5 true (.op 9 false (.done)) .stop) .stop)) .stop)) .stop))) (.alt 6 true (.alt 4 true (.alt 5 true (.op 7 true (.op 8 false (.op 9 false (.done)))) (.alt 7 true (.alt 5 true (.op 8 false (.op 9 false (.done))) (.alt 8 false (.alt 5 true (.op 9 false (.done)) .stop) .stop)) .stop)) (.alt 7 true (.alt 4 true (.alt 5 true (.op 8 false (.op 9 false (.done))) (.alt 8 false (.alt 5 true (.op 9 false (.done)) .stop) .stop)) (.alt 8 false (.alt 4 true (.alt 5 true (.op 9 false (.done)) .stop) .stop) .stop)) .stop)) (.alt 7 true (.alt 4 true (.alt 5 true (.op 6 true (.op 8 false (.op 9 false (.done)))) (.alt 6 true (.alt 5 true (.op 8 false (.op 9 false (.done))) (.alt 8 false (.alt 5 true (.op 9 false (.done)) .stop) .stop)) .stop)) (.alt 6 true (.alt 4 true (.alt 5 true (.op 8 false (.op 9 false (.done))) (.alt 8 false (.alt 5 true (.op 9 false (.done)) .stop) .stop)) (.alt 8 false (.alt 4 true (.alt 5 true (.op 9 false (.done)) .stop) .stop) .stop)) .stop)) .stop))) (.alt 6 true (.alt 3 true (.alt 4 true (.alt 5 true (.op 7 true (.op 8 false (.op 9 false (.done)))) (.alt 7 true (.alt 5 true (.op 8 false (.op 9 false (.done))) (.alt 8 false (.alt 5 true (.op 9 false (.done)) .stop) .stop)) .stop)) (.alt 7 true (.alt 4 true (.alt 5 true (.op 8 false (.op 9 false (.done))) (.alt 8 false (.alt 5 true (.op 9 false (.done)) .stop) .stop)) (.alt 8 false (.alt 4 true (.alt 5 true (.op 9 false (.done)) .stop) .stop) .stop)) .stop)) (.alt 7 true (.alt 3 true (.alt 4 true (.alt 5 true (.op 8 false (.op 9 false (.done))) (.alt 8 false (.alt 5 true (.op 9 false (.done)) .stop) .stop)) (.alt 8 false (.alt 4 true (.alt 5 true (.op 9 false (.done)) .stop) .stop) .stop)) (.alt 8 false (.alt 3 true (.alt 4 true (.alt 5 true (.op 9 false (.done)) .stop) .stop) .stop) .stop)) .stop)) (.alt 7 true (.alt 3 true (.alt 4 true (.alt 5 true (.op 6 true (.op 8 false (.op 9 false (.done)))) (.alt 6 true (.alt 5 true (.op 8 false (.op 9 false (.done))) (.alt 8 false (.alt 5 true (.op 9 false (.done)) .stop) .stop)) .stop)) (.alt 6 true (.alt 4 true (.alt 5 true (.op 8 false (.op 9 false (.done))) (.alt 8 false (.alt 5 true (.op 9 false (.done)) .stop) .stop)) (.alt 8 false (.alt 4 true (.alt 5 true (.op 9 false (.done)) .stop) .stop) .stop)) .stop)) (.alt 6 true (.alt 3 true (.alt 4 true (.alt 5 true (.op 8 false (.op 9 false (.done))) (.alt 8 false (.alt 5 true (.op 9 false (.done)) .stop) .stop)) (.alt 8 false (.alt 4 true (.alt 5 true (.op 9 false (.done)) .stop) .stop) .stop)) (.alt 8 false (.alt 3 true (.alt 4 true (.alt 5 true (.op 9 false (.done)) .stop) .stop) .stop) .stop)) .stop)) .stop)))))) (by kernel_rfl) ?_ | refine wd (id := 6) 19807040628566084398392287223 1 (.op 0 true (.op 1 true (.op 2 true (.op 3 true (.op 6 true (.op 7 true (.op 8 true (.op 9 true (.op 10 true (.op 11 true (.op 12 true (.op 13 true (.op 14 true (.op 15 true (.op 16 true (.op 17 true (.op 19 true (.op 21 true (.op 22 true (.op 23 true (.op 4 true (.op 5 true (.op 18 true (.op 20 true (.op 24 true (.op 25 true (.done))))))))))))))))))))))))))) (by kernel_rfl) ?_ | refine wd (id := 7) 19807040628566084398392287223 1 (.op 0 true (.op 1 true (.op 3 true (.op 4 true (.op 5 true (.op 6 true (.op 7 true (.op 8 true (.op 9 true (.op 10 true (.op 11 true (.op 12 true (.op 13 true (.op 14 true (.op 15 true (.op 16 true (.op 17 true (.op 18 true (.op 19 true (.op 2 true (.op 20 true (.op 21 true (.done))))))))))))))))))))))) (by kernel_rfl) ?_ | refine wd (id := 14) 19807040628566084398392287223 1 (.op 0 true (.op 1 true (.op 2 true (.op 3 true (.op 4 true (.op 5 true (.op 6 true (.op 7 true (.op 8 false (.done)))))))))) (by kernel_rfl) ?_ | refine wd (id := 15) 19807040628566084398392287223 1 (.op 0 true (.op 1 true (.op 2 true (.op 3 true (.op 4 true (.op 5 true (.op 6 true (.op 7 true (.op 8 true (.op 9 false (.done))))))))))) (by kernel_rfl) ?_)
    | ((with_reducible first | (apply WL_op; intro nx hnx) | refine Ev_out ?_ | refine wc ?_ | (apply popsD_op; intro nx hnx) | (refine popsD_alt ?_ ?_; intro nx hnx) | (refine pf hnm fun nm hnm => ?_; try simp only [fmb] at hnm) | (refine pm hnm fun nm hnm => ?_; try simp only [fmb] at hnm)); try (simp (maxSteps := 2000000) (disch := omega) only [ev, ↓evp, PV.cells, PV.one, PV.mem?, Value.cells, Nat.reduceAdd, Nat.reduceMul, Nat.reduceSub, Nat.reduceLeDiff, Nat.reduceEqDiff, ↓reduceIte, reduceCtorEq, Nat.reduceLT, Nat.reducePow, Nat.reduceDiv, Nat.reduceMod, Nat.reduceBEq, Int.reduceLT, Int.reduceLE, Int.reduceToNat, Int.reduceAdd, Int.reduceSub, Int.reduceNeg, hnm, Tryd.tf0, Tryd.tf3, Tryd.tf5, Tryd.tf27, Tryd.tf74, Tryd.tf75, Tryd.tf132, Tryd.tf134, Tryd.tf135, Tryd.call79, Tryd.call80, hG, hwm, hwl, hwt, hw1, hk1, hkl, hkt]))
    | ((with_reducible first | apply W_block | apply W_scope | apply WL_nil | apply W_label | apply W_skip | apply W_exit | apply W_ret | apply popsD_done | exact popsD_stop) <;> try simp only [kks, Nat.reduceAdd, Nat.reduceMul, Nat.reduceSub, Nat.reduceLeDiff, Nat.reduceEqDiff, ↓reduceIte, reduceCtorEq, Nat.reduceLT, Nat.reducePow, Nat.reduceDiv, Nat.reduceMod, Nat.reduceBEq, Int.reduceLT, Int.reduceLE, Int.reduceToNat, Int.reduceAdd, Int.reduceSub, Int.reduceNeg])
    | (with_reducible apply pg <;> (intro hc; (try simp only [hcb, Nat.reduceAdd, Nat.reduceMul, Nat.reduceSub, Nat.reduceLeDiff, Nat.reduceEqDiff, ↓reduceIte, reduceCtorEq, Nat.reduceLT, Nat.reducePow, Nat.reduceDiv, Nat.reduceMod, Nat.reduceBEq, Int.reduceLT, Int.reduceLE, Int.reduceToNat, Int.reduceAdd, Int.reduceSub, Int.reduceNeg, ne_eq, forall_const] at hc); first | (exfalso; omega) | exact absurd trivial hc | skip))
    | (with_reducible apply hnx; clear hnx nx)
    | (with_reducible refine And.intro (by omega) ?_)
    | (with_reducible refine And.intro ?_ ?_)
    | (clear hnx nx; with_reducible apply hnx; clear hnx nx)
    | (clear hnx nx; clear hnx nx; with_reducible apply hnx; clear hnx nx))
    refine W_loop_k (fun z τ => ∃ (t : Nat) (v0 v1 v2 v3 e0 e1 e2 e3 : UInt32), t ≤ 64 ∧ z = 64 - t ∧ rds w [s0, s1, s2, s3, s4, s5, s6, s7] t = [v0, v1, v2, v3, e0, e1, e2, e3] ∧ τ = ⟨fr 116 [(2, .ptr N2 0), (4, .ptr N4 0), (5, .ptr N5 0), (6, .ptr N6 0), (7, .ptr N7 0), (21, .agg (ks.map pw)), (22, pint .i64 t)],
      [(N7, ⟨134, false, 0, [pw e0, pw e1, pw e2, pw e3]⟩), (N6, ⟨134, false, 0, [pw v0, pw v1, pw v2, pw v3]⟩), (N5, ⟨132, false, 0, w.map pw⟩), (N4, ⟨75, false, 0, [pint .u32 0, pint .u32 0, pint .u32 0, pint .u32 0, pint .u32 0, pint .u32 0, pint .u32 0, pint .u32 0]⟩), (N2, ⟨75, false, 0, [pw s0, pw s1, pw s2, pw s3, pw s4, pw s5, pw s6, pw s7]⟩)]⟩) 64
      ⟨fr 116 [(2, .ptr N2 0), (4, .ptr N4 0), (5, .ptr N5 0), (6, .ptr N6 0), (7, .ptr N7 0), (21, .agg (ks.map pw)), (22, pint .i64 (0 : Nat))],
      [(N7, ⟨134, false, 0, [pw s4, pw s5, pw s6, pw s7]⟩), (N6, ⟨134, false, 0, [pw s0, pw s1, pw s2, pw s3]⟩), (N5, ⟨132, false, 0, w.map pw⟩), (N4, ⟨75, false, 0, [pint .u32 0, pint .u32 0, pint .u32 0, pint .u32 0, pint .u32 0, pint .u32 0, pint .u32 0, pint .u32 0]⟩), (N2, ⟨75, false, 0, [pw s0, pw s1, pw s2, pw s3, pw s4, pw s5, pw s6, pw s7]⟩)]⟩ (by
      refine Wk_fr (by simp only [wkb, Nat.reduceAdd, Nat.reduceMul, Nat.reduceSub, Nat.reduceLeDiff, Nat.reduceEqDiff, ↓reduceIte, reduceCtorEq, Nat.reduceLT, Nat.reducePow, Nat.reduceDiv, Nat.reduceMod, Nat.reduceBEq, Int.reduceLT, Int.reduceLE, Int.reduceToNat, Int.reduceAdd, Int.reduceSub, Int.reduceNeg]) ?_
      exact ⟨by simp, by simp [names, hnm]⟩) ⟨0, s0, s1, s2, s3, s4, s5, s6, s7, by omega, by omega, hr0, rfl⟩ ?_
    rintro z τ ⟨t, v0, v1, v2, v3, e0, e1, e2, e3, ht, rfl, hrt, rfl⟩ lp hlp
    by_cases ht2 : t < 64
    · have hst := hrs t
      rw [hrt] at hst
      obtain ⟨k, hk⟩ : ∃ k, k = ks.getD t 0 := ⟨_, rfl⟩
      obtain ⟨u, hu⟩ : ∃ u, u = w.getD t 0 := ⟨_, rfl⟩
      rw [← hk, ← hu] at hst
      have hkg : ks[t]'(by omega) = k := by rw [hk]; simp [hkl, ht2]
      have hkq : ks[t]? = some k := by rw [List.getElem?_eq_getElem (by omega), hkg]
      have hug : w[t]? = some u := by rw [hu, List.getElem?_eq_getElem (by omega)]; simp [hwl, ht2]
      have hug2 : w[t]'(by omega) = u := by rw [hu]; simp [hwl, ht2]
      obtain ⟨X, hX⟩ : ∃ X, X = xW e0 e1 e2 e3 k u := ⟨_, rfl⟩
      obtain ⟨Y, hY⟩ : ∃ Y, Y = yW v0 v1 v2 := ⟨_, rfl⟩
      have hst : rds w [s0, s1, s2, s3, s4, s5, s6, s7] (t + 1) = [X + Y, v0, v1, v2, v3 + X, e0, e1, e2] := by
        rw [hst, rnd, ← hX, ← hY]
      have hx : e3 + Mx e0 6 11 25 + (e0 &&& e1 ^^^ (e0 ^^^ 4294967295) &&& e2) + k + u = X := by rw [hX, xW, chW]
      have hy : Mx v0 2 13 22 + (v0 &&& v1 ^^^ v0 &&& v2 ^^^ v1 &&& v2) = Y := by rw [hY, yW, maW]
      have hm1 : PCalls Tryd.prog G 80 [pw e0, pint .i64 6, pint .i64 11, pint .i64 25] [] (fun res H => res = pw (Mx e0 6 11 25) ∧ H = []) := mix_c G e0 6 11 25 (by decide) (by decide) (by decide)
      have hm2 : PCalls Tryd.prog G 80 [pw v0, pint .i64 2, pint .i64 13, pint .i64 22] [] (fun res H => res = pw (Mx v0 2 13 22) ∧ H = []) := mix_c G v0 2 13 22 (by decide) (by decide) (by decide)
      repeat' (first
    | (with_reducible apply W_seq_k; intro nx hnx)
    | (with_reducible first | refine wr 19807040628566084398392287223 ?_ | refine wd (id := 2) 19807040628566084398392287223 1 (.op 0 true (.op 1 true (.op 2 true (.alt 3 true (.alt 4 true (.alt 5 true (.alt 6 true (.op 7 true (.op 8 false (.op 9 false (.done)))) (.alt 7 true (.op 6 true (.op 8 false (.op 9 false (.done)))) .stop)) (.alt 6 true (.alt 5 true (.op 7 true (.op 8 false (.op 9 false (.done)))) (.alt 7 true (.alt 5 true (.op 8 false (.op 9 false (.done))) (.alt 8 false (.alt 5 true (.op 9 false (.done)) .stop) .stop)) .stop)) (.alt 7 true (.alt 5 true (.op 6 true (.op 8 false (.op 9 false (.done)))) (.alt 6 true (.alt 5 true (.op 8 false (.op 9 false (.done))) (.alt 8 false (.alt 5 true (.op 9 false (.done)) .stop) .stop)) .stop)) .stop))) (.alt 6 true (.alt 4 true (.alt 5 true (.op 7 true (.op 8 false (.op 9 false (.done)))) (.alt 7 true (.alt 5 true (.op 8 false (.op 9 false (.done))) (.alt 8 false (.alt 5 true (.op 9 false (.done)) .stop) .stop)) .stop)) (.alt 7 true (.alt 4 true (.alt 5 true (.op 8 false (.op 9 false (.done))) (.alt 8 false (.alt 5 true (.op 9 false (.done)) .stop) .stop)) (.alt 8 false (.alt 4 true (.alt 5 true (.op 9 false (.done)) .stop) .stop) .stop)) .stop)) (.alt 7 true (.alt 4 true (.alt 5 true (.op 6 true (.op 8 false (.op 9 false (.done)))) (.alt 6 true (.alt 5 true (.op 8 false (.op 9 false (.done))) (.alt 8 false (.alt 5 true (.op 9 false (.done)) .stop) .stop)) .stop)) (.alt 6 true (.alt 4 true (.alt 5 true (.op 8 false (.op 9 false (.done))) (.alt 8 false (.alt 5 true (.op 9 false (.done)) .stop) .stop)) (.alt 8 false (.alt 4 true (.alt 5 true (.op 9 false (.done)) .stop) .stop) .stop)) .stop)) .stop))) (.alt 6 true (.alt 3 true (.alt 4 true (.alt 5 true (.op 7 true (.op 8 false (.op 9 false (.done)))) (.alt 7 true (.alt 5 true (.op 8 false (.op 9 false (.done))) (.alt 8 false (.alt 5 true (.op 9 false (.done)) .stop) .stop)) .stop)) (.alt 7 true (.alt 4 true (.alt 5 true (.op 8 false (.op 9 false (.done))) (.alt 8 false (.alt 5 true (.op 9 false (.done)) .stop) .stop)) (.alt 8 false (.alt 4 true (.alt 5 true (.op 9 false (.done)) .stop) .stop) .stop)) .stop)) (.alt 7 true (.alt 3 true (.alt 4 true (.alt 5 true (.op 8 false (.op 9 false (.done))) (.alt 8 false (.alt 5 true (.op 9 false (.done)) .stop) .stop)) (.alt 8 false (.alt 4 true (.alt 5 true (.op 9 false (.done)) .stop) .stop) .stop)) (.alt 8 false (.alt 3 true (.alt 4 true (.alt 5 true (.op 9 false (.done)) .stop) .stop) .stop) .stop)) .stop)) (.alt 7 true (.alt 3 true (.alt 4 true (.alt 5 true (.op 6 true (.op 8 false (.op 9 false (.done)))) (.alt 6 true (.alt 5 true (.op 8 false (.op 9 false (.done))) (.alt 8 false (.alt 5 true (.op 9 false (.done)) .stop) .stop)) .stop)) (.alt 6 true (.alt 4 true (.alt 5 true (.op 8 false (.op 9 false (.done))) (.alt 8 false (.alt 5 true (.op 9 false (.done)) .stop) .stop)) (.alt 8 false (.alt 4 true (.alt 5 true (.op 9 false (.done)) .stop) .stop) .stop)) .stop)) (.alt 6 true (.alt 3 true (.alt 4 true (.alt 5 true (.op 8 false (.op 9 false (.done))) (.alt 8 false (.alt 5 true (.op 9 false (.done)) .stop) .stop)) (.alt 8 false (.alt 4 true (.alt 5 true (.op 9 false (.done)) .stop) .stop) .stop)) (.alt 8 false (.alt 3 true (.alt 4 true (.alt 5 true (.op 9 false (.done)) .stop) .stop) .stop) .stop)) .stop)) .stop)))))) (by kernel_rfl) ?_ | refine wd (id := 6) 19807040628566084398392287223 1 (.op 0 true (.op 1 true (.op 2 true (.op 3 true (.op 6 true (.op 7 true (.op 8 true (.op 9 true (.op 10 true (.op 11 true (.op 12 true (.op 13 true (.op 14 true (.op 15 true (.op 16 true (.op 17 true (.op 19 true (.op 21 true (.op 22 true (.op 23 true (.op 4 true (.op 5 true (.op 18 true (.op 20 true (.op 24 true (.op 25 true (.done))))))))))))))))))))))))))) (by kernel_rfl) ?_ | refine wd (id := 7) 19807040628566084398392287223 1 (.op 0 true (.op 1 true (.op 3 true (.op 4 true (.op 5 true (.op 6 true (.op 7 true (.op 8 true (.op 9 true (.op 10 true (.op 11 true (.op 12 true (.op 13 true (.op 14 true (.op 15 true (.op 16 true (.op 17 true (.op 18 true (.op 19 true (.op 2 true (.op 20 true (.op 21 true (.done))))))))))))))))))))))) (by kernel_rfl) ?_ | refine wd (id := 14) 19807040628566084398392287223 1 (.op 0 true (.op 1 true (.op 2 true (.op 3 true (.op 4 true (.op 5 true (.op 6 true (.op 7 true (.op 8 false (.done)))))))))) (by kernel_rfl) ?_ | refine wd (id := 15) 19807040628566084398392287223 1 (.op 0 true (.op 1 true (.op 2 true (.op 3 true (.op 4 true (.op 5 true (.op 6 true (.op 7 true (.op 8 true (.op 9 false (.done))))))))))) (by kernel_rfl) ?_)
    | ((with_reducible first | (apply WL_op; intro nx hnx) | refine Ev_out ?_ | refine wc ?_ | (apply popsD_op; intro nx hnx) | (refine popsD_alt ?_ ?_; intro nx hnx) | (refine pf hnm fun nm hnm => ?_; try simp only [fmb] at hnm) | (refine pm hnm fun nm hnm => ?_; try simp only [fmb] at hnm)); try (simp (maxSteps := 2000000) (disch := omega) only [ev, ↓evp, PV.cells, PV.one, PV.mem?, Value.cells, Nat.reduceAdd, Nat.reduceMul, Nat.reduceSub, Nat.reduceLeDiff, Nat.reduceEqDiff, ↓reduceIte, reduceCtorEq, Nat.reduceLT, Nat.reducePow, Nat.reduceDiv, Nat.reduceMod, Nat.reduceBEq, Int.reduceLT, Int.reduceLE, Int.reduceToNat, Int.reduceAdd, Int.reduceSub, Int.reduceNeg, hnm, Tryd.tf0, Tryd.tf3, Tryd.tf5, Tryd.tf27, Tryd.tf74, Tryd.tf75, Tryd.tf132, Tryd.tf134, Tryd.tf135, Tryd.call79, Tryd.call80, hkl, hkg, hkq, hug, hug2, w_and, w_xor, w_not, w_add, hx, hy]))
    | ((with_reducible first | apply W_block | apply W_scope | apply WL_nil | apply W_label | apply W_skip | apply W_exit | apply W_ret | apply popsD_done | exact popsD_stop) <;> try simp only [kks, Nat.reduceAdd, Nat.reduceMul, Nat.reduceSub, Nat.reduceLeDiff, Nat.reduceEqDiff, ↓reduceIte, reduceCtorEq, Nat.reduceLT, Nat.reducePow, Nat.reduceDiv, Nat.reduceMod, Nat.reduceBEq, Int.reduceLT, Int.reduceLE, Int.reduceToNat, Int.reduceAdd, Int.reduceSub, Int.reduceNeg])
    | (with_reducible apply pg <;> (intro hc; (try simp only [hcb, Nat.reduceAdd, Nat.reduceMul, Nat.reduceSub, Nat.reduceLeDiff, Nat.reduceEqDiff, ↓reduceIte, reduceCtorEq, Nat.reduceLT, Nat.reducePow, Nat.reduceDiv, Nat.reduceMod, Nat.reduceBEq, Int.reduceLT, Int.reduceLE, Int.reduceToNat, Int.reduceAdd, Int.reduceSub, Int.reduceNeg, ne_eq, forall_const] at hc); first | (exfalso; omega) | exact absurd trivial hc | skip))
    | (with_reducible apply hnx; clear hnx nx)
    | (with_reducible refine And.intro (by omega) ?_)
    | (with_reducible refine And.intro ?_ ?_)
    | (with_reducible refine pe (hm1) ?_)
    | (with_reducible refine pe (hm2) ?_)
    | (clear hnx nx; with_reducible apply hnx; clear hnx nx)
    | (clear hnx nx; clear hnx nx; with_reducible apply hnx; clear hnx nx))
      refine hlp _ (64 - (t + 1)) _ (by omega) ?_ ⟨t + 1, X + Y, v0, v1, v2, v3 + X, e0, e1, e2, by omega, rfl, hst, rfl⟩
      refine Wk_fr (by simp only [wkb, Nat.reduceAdd, Nat.reduceMul, Nat.reduceSub, Nat.reduceLeDiff, Nat.reduceEqDiff, ↓reduceIte, reduceCtorEq, Nat.reduceLT, Nat.reducePow, Nat.reduceDiv, Nat.reduceMod, Nat.reduceBEq, Int.reduceLT, Int.reduceLE, Int.reduceToNat, Int.reduceAdd, Int.reduceSub, Int.reduceNeg]) ?_
      exact Sub_refl (by simp only [names, List.map_cons, List.map_nil]; exact hnd0)
    · have ht64 : t = 64 := by omega
      subst ht64
      rw [hrt] at hcomp
      repeat' (first
    | (with_reducible apply W_seq_k; intro nx hnx)
    | (with_reducible first | refine wr 19807040628566084398392287223 ?_ | refine wd (id := 2) 19807040628566084398392287223 1 (.op 0 true (.op 1 true (.op 2 true (.alt 3 true (.alt 4 true (.alt 5 true (.alt 6 true (.op 7 true (.op 8 false (.op 9 false (.done)))) (.alt 7 true (.op 6 true (.op 8 false (.op 9 false (.done)))) .stop)) (.alt 6 true (.alt 5 true (.op 7 true (.op 8 false (.op 9 false (.done)))) (.alt 7 true (.alt 5 true (.op 8 false (.op 9 false (.done))) (.alt 8 false (.alt 5 true (.op 9 false (.done)) .stop) .stop)) .stop)) (.alt 7 true (.alt 5 true (.op 6 true (.op 8 false (.op 9 false (.done)))) (.alt 6 true (.alt 5 true (.op 8 false (.op 9 false (.done))) (.alt 8 false (.alt 5 true (.op 9 false (.done)) .stop) .stop)) .stop)) .stop))) (.alt 6 true (.alt 4 true (.alt 5 true (.op 7 true (.op 8 false (.op 9 false (.done)))) (.alt 7 true (.alt 5 true (.op 8 false (.op 9 false (.done))) (.alt 8 false (.alt 5 true (.op 9 false (.done)) .stop) .stop)) .stop)) (.alt 7 true (.alt 4 true (.alt 5 true (.op 8 false (.op 9 false (.done))) (.alt 8 false (.alt 5 true (.op 9 false (.done)) .stop) .stop)) (.alt 8 false (.alt 4 true (.alt 5 true (.op 9 false (.done)) .stop) .stop) .stop)) .stop)) (.alt 7 true (.alt 4 true (.alt 5 true (.op 6 true (.op 8 false (.op 9 false (.done)))) (.alt 6 true (.alt 5 true (.op 8 false (.op 9 false (.done))) (.alt 8 false (.alt 5 true (.op 9 false (.done)) .stop) .stop)) .stop)) (.alt 6 true (.alt 4 true (.alt 5 true (.op 8 false (.op 9 false (.done))) (.alt 8 false (.alt 5 true (.op 9 false (.done)) .stop) .stop)) (.alt 8 false (.alt 4 true (.alt 5 true (.op 9 false (.done)) .stop) .stop) .stop)) .stop)) .stop))) (.alt 6 true (.alt 3 true (.alt 4 true (.alt 5 true (.op 7 true (.op 8 false (.op 9 false (.done)))) (.alt 7 true (.alt 5 true (.op 8 false (.op 9 false (.done))) (.alt 8 false (.alt 5 true (.op 9 false (.done)) .stop) .stop)) .stop)) (.alt 7 true (.alt 4 true (.alt 5 true (.op 8 false (.op 9 false (.done))) (.alt 8 false (.alt 5 true (.op 9 false (.done)) .stop) .stop)) (.alt 8 false (.alt 4 true (.alt 5 true (.op 9 false (.done)) .stop) .stop) .stop)) .stop)) (.alt 7 true (.alt 3 true (.alt 4 true (.alt 5 true (.op 8 false (.op 9 false (.done))) (.alt 8 false (.alt 5 true (.op 9 false (.done)) .stop) .stop)) (.alt 8 false (.alt 4 true (.alt 5 true (.op 9 false (.done)) .stop) .stop) .stop)) (.alt 8 false (.alt 3 true (.alt 4 true (.alt 5 true (.op 9 false (.done)) .stop) .stop) .stop) .stop)) .stop)) (.alt 7 true (.alt 3 true (.alt 4 true (.alt 5 true (.op 6 true (.op 8 false (.op 9 false (.done)))) (.alt 6 true (.alt 5 true (.op 8 false (.op 9 false (.done))) (.alt 8 false (.alt 5 true (.op 9 false (.done)) .stop) .stop)) .stop)) (.alt 6 true (.alt 4 true (.alt 5 true (.op 8 false (.op 9 false (.done))) (.alt 8 false (.alt 5 true (.op 9 false (.done)) .stop) .stop)) (.alt 8 false (.alt 4 true (.alt 5 true (.op 9 false (.done)) .stop) .stop) .stop)) .stop)) (.alt 6 true (.alt 3 true (.alt 4 true (.alt 5 true (.op 8 false (.op 9 false (.done))) (.alt 8 false (.alt 5 true (.op 9 false (.done)) .stop) .stop)) (.alt 8 false (.alt 4 true (.alt 5 true (.op 9 false (.done)) .stop) .stop) .stop)) (.alt 8 false (.alt 3 true (.alt 4 true (.alt 5 true (.op 9 false (.done)) .stop) .stop) .stop) .stop)) .stop)) .stop)))))) (by kernel_rfl) ?_ | refine wd (id := 6) 19807040628566084398392287223 1 (.op 0 true (.op 1 true (.op 2 true (.op 3 true (.op 6 true (.op 7 true (.op 8 true (.op 9 true (.op 10 true (.op 11 true (.op 12 true (.op 13 true (.op 14 true (.op 15 true (.op 16 true (.op 17 true (.op 19 true (.op 21 true (.op 22 true (.op 23 true (.op 4 true (.op 5 true (.op 18 true (.op 20 true (.op 24 true (.op 25 true (.done))))))))))))))))))))))))))) (by kernel_rfl) ?_ | refine wd (id := 7) 19807040628566084398392287223 1 (.op 0 true (.op 1 true (.op 3 true (.op 4 true (.op 5 true (.op 6 true (.op 7 true (.op 8 true (.op 9 true (.op 10 true (.op 11 true (.op 12 true (.op 13 true (.op 14 true (.op 15 true (.op 16 true (.op 17 true (.op 18 true (.op 19 true (.op 2 true (.op 20 true (.op 21 true (.done))))))))))))))))))))))) (by kernel_rfl) ?_ | refine wd (id := 14) 19807040628566084398392287223 1 (.op 0 true (.op 1 true (.op 2 true (.op 3 true (.op 4 true (.op 5 true (.op 6 true (.op 7 true (.op 8 false (.done)))))))))) (by kernel_rfl) ?_ | refine wd (id := 15) 19807040628566084398392287223 1 (.op 0 true (.op 1 true (.op 2 true (.op 3 true (.op 4 true (.op 5 true (.op 6 true (.op 7 true (.op 8 true (.op 9 false (.done))))))))))) (by kernel_rfl) ?_)
    | ((with_reducible first | (apply WL_op; intro nx hnx) | refine Ev_out ?_ | refine wc ?_ | (apply popsD_op; intro nx hnx) | (refine popsD_alt ?_ ?_; intro nx hnx) | (refine pf hnm fun nm hnm => ?_; try simp only [fmb] at hnm) | (refine pm hnm fun nm hnm => ?_; try simp only [fmb] at hnm)); try (simp (maxSteps := 2000000) (disch := omega) only [ev, ↓evp, PV.cells, PV.one, PV.mem?, Value.cells, Nat.reduceAdd, Nat.reduceMul, Nat.reduceSub, Nat.reduceLeDiff, Nat.reduceEqDiff, ↓reduceIte, reduceCtorEq, Nat.reduceLT, Nat.reducePow, Nat.reduceDiv, Nat.reduceMod, Nat.reduceBEq, Int.reduceLT, Int.reduceLE, Int.reduceToNat, Int.reduceAdd, Int.reduceSub, Int.reduceNeg, hnm, Tryd.tf0, Tryd.tf3, Tryd.tf5, Tryd.tf27, Tryd.tf74, Tryd.tf75, Tryd.tf132, Tryd.tf134, Tryd.tf135, Tryd.call79, Tryd.call80]))
    | ((with_reducible first | apply W_block | apply W_scope | apply WL_nil | apply W_label | apply W_skip | apply W_exit | apply W_ret | apply popsD_done | exact popsD_stop) <;> try simp only [kks, Nat.reduceAdd, Nat.reduceMul, Nat.reduceSub, Nat.reduceLeDiff, Nat.reduceEqDiff, ↓reduceIte, reduceCtorEq, Nat.reduceLT, Nat.reducePow, Nat.reduceDiv, Nat.reduceMod, Nat.reduceBEq, Int.reduceLT, Int.reduceLE, Int.reduceToNat, Int.reduceAdd, Int.reduceSub, Int.reduceNeg])
    | (with_reducible apply pg <;> (intro hc; (try simp only [hcb, Nat.reduceAdd, Nat.reduceMul, Nat.reduceSub, Nat.reduceLeDiff, Nat.reduceEqDiff, ↓reduceIte, reduceCtorEq, Nat.reduceLT, Nat.reducePow, Nat.reduceDiv, Nat.reduceMod, Nat.reduceBEq, Int.reduceLT, Int.reduceLE, Int.reduceToNat, Int.reduceAdd, Int.reduceSub, Int.reduceNeg, ne_eq, forall_const] at hc); first | (exfalso; omega) | exact absurd trivial hc | skip))
    | (with_reducible apply hnx; clear hnx nx)
    | (with_reducible refine And.intro (by omega) ?_)
    | (with_reducible refine And.intro ?_ ?_)
    | (clear hnx nx; with_reducible apply hnx; clear hnx nx)
    | (clear hnx nx; clear hnx nx; with_reducible apply hnx; clear hnx nx))
      refine W_loop_k (fun z τ => ∃ (i : Nat) (cs : List PV), i ≤ 4 ∧ z = 4 - i ∧ ((i = 0 ∧ cs = [pw s0, pw s1, pw s2, pw s3, pw s4, pw s5, pw s6, pw s7]) ∨ (i = 1 ∧ cs = [pw (s0 + v0), pw s1, pw s2, pw s3, pw (s4 + e0), pw s5, pw s6, pw s7]) ∨ (i = 2 ∧ cs = [pw (s0 + v0), pw (s1 + v1), pw s2, pw s3, pw (s4 + e0), pw (s5 + e1), pw s6, pw s7]) ∨ (i = 3 ∧ cs = [pw (s0 + v0), pw (s1 + v1), pw (s2 + v2), pw s3, pw (s4 + e0), pw (s5 + e1), pw (s6 + e2), pw s7]) ∨ (i = 4 ∧ cs = [pw (s0 + v0), pw (s1 + v1), pw (s2 + v2), pw (s3 + v3), pw (s4 + e0), pw (s5 + e1), pw (s6 + e2), pw (s7 + e3)])) ∧ τ = ⟨fr 116 [(2, .ptr N2 0), (4, .ptr N4 0), (6, .ptr N6 0), (7, .ptr N7 0), (94, pint .i64 i)], [(N7, ⟨134, false, 0, [pw e0, pw e1, pw e2, pw e3]⟩), (N6, ⟨134, false, 0, [pw v0, pw v1, pw v2, pw v3]⟩), (N4, ⟨75, false, 0, [pint .u32 0, pint .u32 0, pint .u32 0, pint .u32 0, pint .u32 0, pint .u32 0, pint .u32 0, pint .u32 0]⟩), (N2, ⟨75, false, 0, cs⟩)]⟩) 4
        ⟨fr 116 [(2, .ptr N2 0), (4, .ptr N4 0), (6, .ptr N6 0), (7, .ptr N7 0), (94, pint .i64 (0 : Nat))], [(N7, ⟨134, false, 0, [pw e0, pw e1, pw e2, pw e3]⟩), (N6, ⟨134, false, 0, [pw v0, pw v1, pw v2, pw v3]⟩), (N4, ⟨75, false, 0, [pint .u32 0, pint .u32 0, pint .u32 0, pint .u32 0, pint .u32 0, pint .u32 0, pint .u32 0, pint .u32 0]⟩), (N2, ⟨75, false, 0, [pw s0, pw s1, pw s2, pw s3, pw s4, pw s5, pw s6, pw s7]⟩)]⟩ (by
        refine Wk_fr (by simp only [wkb, Nat.reduceAdd, Nat.reduceMul, Nat.reduceSub, Nat.reduceLeDiff, Nat.reduceEqDiff, ↓reduceIte, reduceCtorEq, Nat.reduceLT, Nat.reducePow, Nat.reduceDiv, Nat.reduceMod, Nat.reduceBEq, Int.reduceLT, Int.reduceLE, Int.reduceToNat, Int.reduceAdd, Int.reduceSub, Int.reduceNeg]) ?_
        exact ⟨by simp, by simp [names, hnm]⟩) ⟨0, _, by omega, by omega, .inl ⟨rfl, rfl⟩, rfl⟩ ?_
      rintro z τ ⟨i, cs, hi, rfl, hcs, rfl⟩ lp2 hlp2
      rcases hcs with ⟨rfl, rfl⟩ | ⟨rfl, rfl⟩ | ⟨rfl, rfl⟩ | ⟨rfl, rfl⟩ | ⟨rfl, rfl⟩
      all_goals
        repeat' (first
    | (with_reducible apply W_seq_k; intro nx hnx)
    | (with_reducible first | refine wr 19807040628566084398392287223 ?_ | refine wd (id := 2) 19807040628566084398392287223 1 (.op 0 true (.op 1 true (.op 2 true (.alt 3 true (.alt 4 true (.alt 5 true (.alt 6 true (.op 7 true (.op 8 false (.op 9 false (.done)))) (.alt 7 true (.op 6 true (.op 8 false (.op 9 false (.done)))) .stop)) (.alt 6 true (.alt 5 true (.op 7 true (.op 8 false (.op 9 false (.done)))) (.alt 7 true (.alt 5 true (.op 8 false (.op 9 false (.done))) (.alt 8 false (.alt 5 true (.op 9 false (.done)) .stop) .stop)) .stop)) (.alt 7 true (.alt 5 true (.op 6 true (.op 8 false (.op 9 false (.done)))) (.alt 6 true (.alt 5 true (.op 8 false (.op 9 false (.done))) (.alt 8 false (.alt 5 true (.op 9 false (.done)) .stop) .stop)) .stop)) .stop))) (.alt 6 true (.alt 4 true (.alt 5 true (.op 7 true (.op 8 false (.op 9 false (.done)))) (.alt 7 true (.alt 5 true (.op 8 false (.op 9 false (.done))) (.alt 8 false (.alt 5 true (.op 9 false (.done)) .stop) .stop)) .stop)) (.alt 7 true (.alt 4 true (.alt 5 true (.op 8 false (.op 9 false (.done))) (.alt 8 false (.alt 5 true (.op 9 false (.done)) .stop) .stop)) (.alt 8 false (.alt 4 true (.alt 5 true (.op 9 false (.done)) .stop) .stop) .stop)) .stop)) (.alt 7 true (.alt 4 true (.alt 5 true (.op 6 true (.op 8 false (.op 9 false (.done)))) (.alt 6 true (.alt 5 true (.op 8 false (.op 9 false (.done))) (.alt 8 false (.alt 5 true (.op 9 false (.done)) .stop) .stop)) .stop)) (.alt 6 true (.alt 4 true (.alt 5 true (.op 8 false (.op 9 false (.done))) (.alt 8 false (.alt 5 true (.op 9 false (.done)) .stop) .stop)) (.alt 8 false (.alt 4 true (.alt 5 true (.op 9 false (.done)) .stop) .stop) .stop)) .stop)) .stop))) (.alt 6 true (.alt 3 true (.alt 4 true (.alt 5 true (.op 7 true (.op 8 false (.op 9 false (.done)))) (.alt 7 true (.alt 5 true (.op 8 false (.op 9 false (.done))) (.alt 8 false (.alt 5 true (.op 9 false (.done)) .stop) .stop)) .stop)) (.alt 7 true (.alt 4 true (.alt 5 true (.op 8 false (.op 9 false (.done))) (.alt 8 false (.alt 5 true (.op 9 false (.done)) .stop) .stop)) (.alt 8 false (.alt 4 true (.alt 5 true (.op 9 false (.done)) .stop) .stop) .stop)) .stop)) (.alt 7 true (.alt 3 true (.alt 4 true (.alt 5 true (.op 8 false (.op 9 false (.done))) (.alt 8 false (.alt 5 true (.op 9 false (.done)) .stop) .stop)) (.alt 8 false (.alt 4 true (.alt 5 true (.op 9 false (.done)) .stop) .stop) .stop)) (.alt 8 false (.alt 3 true (.alt 4 true (.alt 5 true (.op 9 false (.done)) .stop) .stop) .stop) .stop)) .stop)) (.alt 7 true (.alt 3 true (.alt 4 true (.alt 5 true (.op 6 true (.op 8 false (.op 9 false (.done)))) (.alt 6 true (.alt 5 true (.op 8 false (.op 9 false (.done))) (.alt 8 false (.alt 5 true (.op 9 false (.done)) .stop) .stop)) .stop)) (.alt 6 true (.alt 4 true (.alt 5 true (.op 8 false (.op 9 false (.done))) (.alt 8 false (.alt 5 true (.op 9 false (.done)) .stop) .stop)) (.alt 8 false (.alt 4 true (.alt 5 true (.op 9 false (.done)) .stop) .stop) .stop)) .stop)) (.alt 6 true (.alt 3 true (.alt 4 true (.alt 5 true (.op 8 false (.op 9 false (.done))) (.alt 8 false (.alt 5 true (.op 9 false (.done)) .stop) .stop)) (.alt 8 false (.alt 4 true (.alt 5 true (.op 9 false (.done)) .stop) .stop) .stop)) (.alt 8 false (.alt 3 true (.alt 4 true (.alt 5 true (.op 9 false (.done)) .stop) .stop) .stop) .stop)) .stop)) .stop)))))) (by kernel_rfl) ?_ | refine wd (id := 6) 19807040628566084398392287223 1 (.op 0 true (.op 1 true (.op 2 true (.op 3 true (.op 6 true (.op 7 true (.op 8 true (.op 9 true (.op 10 true (.op 11 true (.op 12 true (.op 13 true (.op 14 true (.op 15 true (.op 16 true (.op 17 true (.op 19 true (.op 21 true (.op 22 true (.op 23 true (.op 4 true (.op 5 true (.op 18 true (.op 20 true (.op 24 true (.op 25 true (.done))))))))))))))))))))))))))) (by kernel_rfl) ?_ | refine wd (id := 7) 19807040628566084398392287223 1 (.op 0 true (.op 1 true (.op 3 true (.op 4 true (.op 5 true (.op 6 true (.op 7 true (.op 8 true (.op 9 true (.op 10 true (.op 11 true (.op 12 true (.op 13 true (.op 14 true (.op 15 true (.op 16 true (.op 17 true (.op 18 true (.op 19 true (.op 2 true (.op 20 true (.op 21 true (.done))))))))))))))))))))))) (by kernel_rfl) ?_ | refine wd (id := 14) 19807040628566084398392287223 1 (.op 0 true (.op 1 true (.op 2 true (.op 3 true (.op 4 true (.op 5 true (.op 6 true (.op 7 true (.op 8 false (.done)))))))))) (by kernel_rfl) ?_ | refine wd (id := 15) 19807040628566084398392287223 1 (.op 0 true (.op 1 true (.op 2 true (.op 3 true (.op 4 true (.op 5 true (.op 6 true (.op 7 true (.op 8 true (.op 9 false (.done))))))))))) (by kernel_rfl) ?_)
    | ((with_reducible first | (apply WL_op; intro nx hnx) | refine Ev_out ?_ | refine wc ?_ | (apply popsD_op; intro nx hnx) | (refine popsD_alt ?_ ?_; intro nx hnx) | (refine pf hnm fun nm hnm => ?_; try simp only [fmb] at hnm) | (refine pm hnm fun nm hnm => ?_; try simp only [fmb] at hnm)); try (simp (maxSteps := 2000000) (disch := omega) only [ev, ↓evp, PV.cells, PV.one, PV.mem?, Value.cells, Nat.reduceAdd, Nat.reduceMul, Nat.reduceSub, Nat.reduceLeDiff, Nat.reduceEqDiff, ↓reduceIte, reduceCtorEq, Nat.reduceLT, Nat.reducePow, Nat.reduceDiv, Nat.reduceMod, Nat.reduceBEq, Int.reduceLT, Int.reduceLE, Int.reduceToNat, Int.reduceAdd, Int.reduceSub, Int.reduceNeg, hnm, Tryd.tf0, Tryd.tf3, Tryd.tf5, Tryd.tf27, Tryd.tf74, Tryd.tf75, Tryd.tf132, Tryd.tf134, Tryd.tf135, Tryd.call79, Tryd.call80, w_add, Nat.min_self]))
    | ((with_reducible first | apply W_block | apply W_scope | apply WL_nil | apply W_label | apply W_skip | apply W_exit | apply W_ret | apply popsD_done | exact popsD_stop) <;> try simp only [kks, Nat.reduceAdd, Nat.reduceMul, Nat.reduceSub, Nat.reduceLeDiff, Nat.reduceEqDiff, ↓reduceIte, reduceCtorEq, Nat.reduceLT, Nat.reducePow, Nat.reduceDiv, Nat.reduceMod, Nat.reduceBEq, Int.reduceLT, Int.reduceLE, Int.reduceToNat, Int.reduceAdd, Int.reduceSub, Int.reduceNeg])
    | (with_reducible apply pg <;> (intro hc; (try simp only [hcb, Nat.reduceAdd, Nat.reduceMul, Nat.reduceSub, Nat.reduceLeDiff, Nat.reduceEqDiff, ↓reduceIte, reduceCtorEq, Nat.reduceLT, Nat.reducePow, Nat.reduceDiv, Nat.reduceMod, Nat.reduceBEq, Int.reduceLT, Int.reduceLE, Int.reduceToNat, Int.reduceAdd, Int.reduceSub, Int.reduceNeg, ne_eq, forall_const] at hc); first | (exfalso; omega) | exact absurd trivial hc | skip))
    | (with_reducible apply hnx; clear hnx nx)
    | (with_reducible refine And.intro (by omega) ?_)
    | (with_reducible refine And.intro ?_ ?_)
    | (clear hnx nx; with_reducible apply hnx; clear hnx nx)
    | (clear hnx nx; clear hnx nx; with_reducible apply hnx; clear hnx nx))
      · refine hlp2 _ 3 _ (by omega) ?_ ⟨1, _, by omega, rfl, .inr (.inl ⟨rfl, rfl⟩), rfl⟩
        refine Wk_fr (by simp only [wkb, Nat.reduceAdd, Nat.reduceMul, Nat.reduceSub, Nat.reduceLeDiff, Nat.reduceEqDiff, ↓reduceIte, reduceCtorEq, Nat.reduceLT, Nat.reducePow, Nat.reduceDiv, Nat.reduceMod, Nat.reduceBEq, Int.reduceLT, Int.reduceLE, Int.reduceToNat, Int.reduceAdd, Int.reduceSub, Int.reduceNeg]) ?_
        exact Sub_refl (by simp [names, hnm])
      · refine hlp2 _ 2 _ (by omega) ?_ ⟨2, _, by omega, rfl, .inr (.inr (.inl ⟨rfl, rfl⟩)), rfl⟩
        refine Wk_fr (by simp only [wkb, Nat.reduceAdd, Nat.reduceMul, Nat.reduceSub, Nat.reduceLeDiff, Nat.reduceEqDiff, ↓reduceIte, reduceCtorEq, Nat.reduceLT, Nat.reducePow, Nat.reduceDiv, Nat.reduceMod, Nat.reduceBEq, Int.reduceLT, Int.reduceLE, Int.reduceToNat, Int.reduceAdd, Int.reduceSub, Int.reduceNeg]) ?_
        exact Sub_refl (by simp [names, hnm])
      · refine hlp2 _ 1 _ (by omega) ?_ ⟨3, _, by omega, rfl, .inr (.inr (.inr (.inl ⟨rfl, rfl⟩))), rfl⟩
        refine Wk_fr (by simp only [wkb, Nat.reduceAdd, Nat.reduceMul, Nat.reduceSub, Nat.reduceLeDiff, Nat.reduceEqDiff, ↓reduceIte, reduceCtorEq, Nat.reduceLT, Nat.reducePow, Nat.reduceDiv, Nat.reduceMod, Nat.reduceBEq, Int.reduceLT, Int.reduceLE, Int.reduceToNat, Int.reduceAdd, Int.reduceSub, Int.reduceNeg]) ?_
        exact Sub_refl (by simp [names, hnm])
      · refine hlp2 _ 0 _ (by omega) ?_ ⟨4, _, by omega, rfl, .inr (.inr (.inr (.inr ⟨rfl, rfl⟩))), rfl⟩
        refine Wk_fr (by simp only [wkb, Nat.reduceAdd, Nat.reduceMul, Nat.reduceSub, Nat.reduceLeDiff, Nat.reduceEqDiff, ↓reduceIte, reduceCtorEq, Nat.reduceLT, Nat.reducePow, Nat.reduceDiv, Nat.reduceMod, Nat.reduceBEq, Int.reduceLT, Int.reduceLE, Int.reduceToNat, Int.reduceAdd, Int.reduceSub, Int.reduceNeg]) ?_
        exact Sub_refl (by simp [names, hnm])
      · refine hfin _ _ (Fin_cell (res := .agg ((comp [s0, s1, s2, s3, s4, s5, s6, s7] b).map pw)) Tryd.tf75 (n := N4) (off := 0) (o := ⟨75, false, 0, [pw (s0 + v0), pw (s1 + v1), pw (s2 + v2), pw (s3 + v3), pw (s4 + e0), pw (s5 + e1), pw (s6 + e2), pw (s7 + e3)]⟩) (by simp only [fr_getD_cons, Nat.reduceEqDiff, Nat.reduceLT, ↓reduceIte]) (by simp [look, hnm]) ?_ (Sub_nil _) ⟨rfl, rfl⟩)
        rw [hcomp]
        simp [pload])
  have mkT : ∀ (l : List (Nat × PV)) (H : Heap) (a b c d e : Int), [e, d, c, b, a].Nodup → (∀ x ∈ [(2, PV.ptr a 0), (4, PV.ptr b 0), (5, PV.ptr c 0), (6, PV.ptr d 0), (7, PV.ptr e 0)], (fr 116 l).getD x.1 .junk = x.2) →
      Sub [(e, ⟨134, false, 0, [pw s4, pw s5, pw s6, pw s7]⟩), (d, ⟨134, false, 0, [pw s0, pw s1, pw s2, pw s3]⟩), (c, ⟨132, false, 0, w.map pw⟩), (b, ⟨75, false, 0, [pint .u32 0, pint .u32 0, pint .u32 0, pint .u32 0, pint .u32 0, pint .u32 0, pint .u32 0, pint .u32 0]⟩), (a, ⟨75, false, 0, [pw s0, pw s1, pw s2, pw s3, pw s4, pw s5, pw s6, pw s7]⟩)] H → nx ⟨fr 116 l, H⟩ :=
    fun l H a b c d e h1 h2 h3 => hnx _ ⟨_, ⟨a, b, c, d, e, h1, rfl⟩, Wk_fr h2 h3⟩
  clear hnx
  repeat' (first
    | (with_reducible apply W_seq_k; intro nx hnx)
    | (with_reducible first | refine wr 19807040628566084398392287223 ?_ | refine wd (id := 2) 19807040628566084398392287223 1 (.op 0 true (.op 1 true (.op 2 true (.alt 3 true (.alt 4 true (.alt 5 true (.alt 6 true (.op 7 true (.op 8 false (.op 9 false (.done)))) (.alt 7 true (.op 6 true (.op 8 false (.op 9 false (.done)))) .stop)) (.alt 6 true (.alt 5 true (.op 7 true (.op 8 false (.op 9 false (.done)))) (.alt 7 true (.alt 5 true (.op 8 false (.op 9 false (.done))) (.alt 8 false (.alt 5 true (.op 9 false (.done)) .stop) .stop)) .stop)) (.alt 7 true (.alt 5 true (.op 6 true (.op 8 false (.op 9 false (.done)))) (.alt 6 true (.alt 5 true (.op 8 false (.op 9 false (.done))) (.alt 8 false (.alt 5 true (.op 9 false (.done)) .stop) .stop)) .stop)) .stop))) (.alt 6 true (.alt 4 true (.alt 5 true (.op 7 true (.op 8 false (.op 9 false (.done)))) (.alt 7 true (.alt 5 true (.op 8 false (.op 9 false (.done))) (.alt 8 false (.alt 5 true (.op 9 false (.done)) .stop) .stop)) .stop)) (.alt 7 true (.alt 4 true (.alt 5 true (.op 8 false (.op 9 false (.done))) (.alt 8 false (.alt 5 true (.op 9 false (.done)) .stop) .stop)) (.alt 8 false (.alt 4 true (.alt 5 true (.op 9 false (.done)) .stop) .stop) .stop)) .stop)) (.alt 7 true (.alt 4 true (.alt 5 true (.op 6 true (.op 8 false (.op 9 false (.done)))) (.alt 6 true (.alt 5 true (.op 8 false (.op 9 false (.done))) (.alt 8 false (.alt 5 true (.op 9 false (.done)) .stop) .stop)) .stop)) (.alt 6 true (.alt 4 true (.alt 5 true (.op 8 false (.op 9 false (.done))) (.alt 8 false (.alt 5 true (.op 9 false (.done)) .stop) .stop)) (.alt 8 false (.alt 4 true (.alt 5 true (.op 9 false (.done)) .stop) .stop) .stop)) .stop)) .stop))) (.alt 6 true (.alt 3 true (.alt 4 true (.alt 5 true (.op 7 true (.op 8 false (.op 9 false (.done)))) (.alt 7 true (.alt 5 true (.op 8 false (.op 9 false (.done))) (.alt 8 false (.alt 5 true (.op 9 false (.done)) .stop) .stop)) .stop)) (.alt 7 true (.alt 4 true (.alt 5 true (.op 8 false (.op 9 false (.done))) (.alt 8 false (.alt 5 true (.op 9 false (.done)) .stop) .stop)) (.alt 8 false (.alt 4 true (.alt 5 true (.op 9 false (.done)) .stop) .stop) .stop)) .stop)) (.alt 7 true (.alt 3 true (.alt 4 true (.alt 5 true (.op 8 false (.op 9 false (.done))) (.alt 8 false (.alt 5 true (.op 9 false (.done)) .stop) .stop)) (.alt 8 false (.alt 4 true (.alt 5 true (.op 9 false (.done)) .stop) .stop) .stop)) (.alt 8 false (.alt 3 true (.alt 4 true (.alt 5 true (.op 9 false (.done)) .stop) .stop) .stop) .stop)) .stop)) (.alt 7 true (.alt 3 true (.alt 4 true (.alt 5 true (.op 6 true (.op 8 false (.op 9 false (.done)))) (.alt 6 true (.alt 5 true (.op 8 false (.op 9 false (.done))) (.alt 8 false (.alt 5 true (.op 9 false (.done)) .stop) .stop)) .stop)) (.alt 6 true (.alt 4 true (.alt 5 true (.op 8 false (.op 9 false (.done))) (.alt 8 false (.alt 5 true (.op 9 false (.done)) .stop) .stop)) (.alt 8 false (.alt 4 true (.alt 5 true (.op 9 false (.done)) .stop) .stop) .stop)) .stop)) (.alt 6 true (.alt 3 true (.alt 4 true (.alt 5 true (.op 8 false (.op 9 false (.done))) (.alt 8 false (.alt 5 true (.op 9 false (.done)) .stop) .stop)) (.alt 8 false (.alt 4 true (.alt 5 true (.op 9 false (.done)) .stop) .stop) .stop)) (.alt 8 false (.alt 3 true (.alt 4 true (.alt 5 true (.op 9 false (.done)) .stop) .stop) .stop) .stop)) .stop)) .stop)))))) (by kernel_rfl) ?_ | refine wd (id := 6) 19807040628566084398392287223 1 (.op 0 true (.op 1 true (.op 2 true (.op 3 true (.op 6 true (.op 7 true (.op 8 true (.op 9 true (.op 10 true (.op 11 true (.op 12 true (.op 13 true (.op 14 true (.op 15 true (.op 16 true (.op 17 true (.op 19 true (.op 21 true (.op 22 true (.op 23 true (.op 4 true (.op 5 true (.op 18 true (.op 20 true (.op 24 true (.op 25 true (.done))))))))))))))))))))))))))) (by kernel_rfl) ?_ | refine wd (id := 7) 19807040628566084398392287223 1 (.op 0 true (.op 1 true (.op 3 true (.op 4 true (.op 5 true (.op 6 true (.op 7 true (.op 8 true (.op 9 true (.op 10 true (.op 11 true (.op 12 true (.op 13 true (.op 14 true (.op 15 true (.op 16 true (.op 17 true (.op 18 true (.op 19 true (.op 2 true (.op 20 true (.op 21 true (.done))))))))))))))))))))))) (by kernel_rfl) ?_ | refine wd (id := 14) 19807040628566084398392287223 1 (.op 0 true (.op 1 true (.op 2 true (.op 3 true (.op 4 true (.op 5 true (.op 6 true (.op 7 true (.op 8 false (.done)))))))))) (by kernel_rfl) ?_ | refine wd (id := 15) 19807040628566084398392287223 1 (.op 0 true (.op 1 true (.op 2 true (.op 3 true (.op 4 true (.op 5 true (.op 6 true (.op 7 true (.op 8 true (.op 9 false (.done))))))))))) (by kernel_rfl) ?_)
    | ((with_reducible first | (apply WL_op; intro nx hnx) | refine Ev_out ?_ | refine wc ?_ | (apply popsD_op; intro nx hnx) | (refine popsD_alt ?_ ?_; intro nx hnx) | (refine pf hnm fun nm hnm => ?_; try simp only [fmb] at hnm) | (refine pm hnm fun nm hnm => ?_; try simp only [fmb] at hnm)); try (simp (maxSteps := 2000000) (disch := omega) only [ev, ↓evp, PV.cells, PV.one, PV.mem?, Value.cells, Nat.reduceAdd, Nat.reduceMul, Nat.reduceSub, Nat.reduceLeDiff, Nat.reduceEqDiff, ↓reduceIte, reduceCtorEq, Nat.reduceLT, Nat.reducePow, Nat.reduceDiv, Nat.reduceMod, Nat.reduceBEq, Int.reduceLT, Int.reduceLE, Int.reduceToNat, Int.reduceAdd, Int.reduceSub, Int.reduceNeg, hnm, Tryd.tf0, Tryd.tf3, Tryd.tf5, Tryd.tf27, Tryd.tf74, Tryd.tf75, Tryd.tf132, Tryd.tf134, Tryd.tf135, Tryd.call79, Tryd.call80, hG, hwm, hwl, hwt, hw1, hk1, hkl, hkt]))
    | ((with_reducible first | apply W_block | apply W_scope | apply WL_nil | apply W_label | apply W_skip | apply W_exit | apply W_ret | apply popsD_done | exact popsD_stop) <;> try simp only [kks, Nat.reduceAdd, Nat.reduceMul, Nat.reduceSub, Nat.reduceLeDiff, Nat.reduceEqDiff, ↓reduceIte, reduceCtorEq, Nat.reduceLT, Nat.reducePow, Nat.reduceDiv, Nat.reduceMod, Nat.reduceBEq, Int.reduceLT, Int.reduceLE, Int.reduceToNat, Int.reduceAdd, Int.reduceSub, Int.reduceNeg])
    | (with_reducible apply pg <;> (intro hc; (try simp only [hcb, Nat.reduceAdd, Nat.reduceMul, Nat.reduceSub, Nat.reduceLeDiff, Nat.reduceEqDiff, ↓reduceIte, reduceCtorEq, Nat.reduceLT, Nat.reducePow, Nat.reduceDiv, Nat.reduceMod, Nat.reduceBEq, Int.reduceLT, Int.reduceLE, Int.reduceToNat, Int.reduceAdd, Int.reduceSub, Int.reduceNeg, ne_eq, forall_const] at hc); first | (exfalso; omega) | exact absurd trivial hc | skip))
    | (with_reducible apply hnx; clear hnx nx)
    | (with_reducible refine And.intro (by omega) ?_)
    | (with_reducible refine And.intro ?_ ?_)
    | (clear hnx nx; with_reducible apply hnx; clear hnx nx)
    | (clear hnx nx; clear hnx nx; with_reducible apply hnx; clear hnx nx))
  all_goals
    apply mkT
    rotate_left
    · simp only [List.forall_mem_cons, List.not_mem_nil, false_implies, implies_true, and_true, fr_getD_cons, fr_getD_nil, Nat.reduceEqDiff, Nat.reduceLT, ↓reduceIte]
      exact ⟨rfl, rfl, rfl, rfl, rfl⟩
    · exact ⟨by simp only [List.mem_cons, List.not_mem_nil, or_false, forall_eq_or_imp, forall_eq, true_or, or_true, and_self], by simp [names, hnm]⟩
    · simp [hnm]
end Go.PM

namespace Go.PM
open Go.Proofs Go.RowKit Go.ChangeShapes Go.WideShapes
theorem pbyte_of {a : Int} (h : (Lit.int .u8 a).wf = true) : pbyte (UInt8.ofNat a.toNat) = .val (.int .u8 a) := by
  have h2 := bounds_u8 h
  unfold pbyte pint
  rw [UInt8.toNat_ofNat_of_lt' (show _ < 256 by omega)]
  congr 2
  omega
/-- What the row lists, a variable at a time. -/
theorem listed {P : Program} {w : World} (n : String) (d : DataW Unit) : ∀ (l : List (String × DataW Unit)) (ps : List MemPlace), DataW.LaidVars P w l ps → (n, d) ∈ l →
    ∃ g t cs fuel p, P.globalNamed n = some g ∧ (P.globals[g]?).map (·.type) = some t ∧ w.var? P n = some cs ∧ DataW.trod (fun _ => ()) P w 0 (fun _ => true) false fuel t cs.toList = some (d, p) := by
  intro l
  induction l with
  | nil => intro _ _ hm; cases hm
  | cons y r ih =>
    rintro ps ⟨g, t, cs, fuel, p, q, a1, a2, a3, a4, a5, _⟩ hm
    cases hm with
    | head => exact ⟨g, t, cs, fuel, p, a1, a2, a3, a4⟩
    | tail _ hm => exact ih q a5 hm
/-- The numbers of the tables. -/
def ksI : List Int := KS.map fun x => (x.toNat : Int)
theorem ks_rep {w : World} {l : List (String × DataW Unit)} {n : String} {g : Nat} {t e : TypeId} (h : laidMet Tryd.prog l w) (hm : (n, Lib.tabData .u32 ksI) ∈ l) (hg : Tryd.prog.globalNamed n = some g) (hty : (Tryd.prog.globals[g]?).map (·.type) = some t)
    (ht : Tryd.prog.underlying t = some (.array 64 e)) (he : Tryd.prog.underlying e = some (.int .u32)) (hce : Tryd.prog.cellsOf e = 1) (hct : Tryd.prog.cellsOf t = 64) :
    Rep w (fun b => b < w.heap.size) (.iptr (KS.map pw) 0) (.pointer (some (at_ g 0))) := by
  obtain ⟨ps, hps, _⟩ := h
  obtain ⟨g', t', cs, fuel, p, hg', ht', hv, hd⟩ := listed n _ l ps hps hm
  obtain rfl := Option.some.inj (hg.symm.trans hg')
  obtain rfl := Option.some.inj (hty.symm.trans ht')
  have hc := Lib.cells_of_tab ht he hce hct hd
  have cell : ∀ i (x : UInt32), KS[i]? = some x → w.cell? (at_ g i) = some (.int .u32 x.toNat) := by
    intro i x hx
    have h1 := World.var?_cell hg hv i
    rw [show at_ g i = ⟨g, i, none⟩ from rfl, h1, ← Array.getElem?_toList, hc, List.getElem?_map, ksI, List.getElem?_map, hx]
    rfl
  have hlt : g < w.heap.size := cell_lt (cell 0 _ rfl)
  exact Rep.iptr (KS.map pw) g 0 0 (fun j => .int .u32 ((KS.getD j 0).toNat : Int)) hlt (fun j u hu => by
    rw [List.getElem?_map] at hu
    obtain ⟨x, hx, rfl⟩ := Option.map_eq_some_iff.1 hu
    rw [Nat.zero_add, cell j x hx, List.getD_eq_getElem?_getD, hx]
    rfl) (fun j u hu => by
    rw [List.getElem?_map] at hu
    obtain ⟨x, hx, rfl⟩ := Option.map_eq_some_iff.1 hu
    rw [List.getD_eq_getElem?_getD, hx]
    exact .val _)
/-- The program's variables: those of the list hold the tables. -/
def globsK (l : List Nat) : Globs := fun g => if g ∈ l then .iptr (KS.map pw) 0 else .val (.pointer (some (at_ g 0)))
theorem globsK_rep {w : World} (l : List Nat) (h : ∀ g ∈ l, Rep w (fun b => b < w.heap.size) (.iptr (KS.map pw) 0) (.pointer (some (at_ g 0)))) (g : Nat) : Rep w (fun b => b < w.heap.size) (globsK l g) (.pointer (some (at_ g 0))) := by
  unfold globsK
  split
  · exact h g ‹_›
  · exact .val _
/-- a function that answers true -/
theorem calls_trueG {P : Program} {G : Globs} {f : FuncId} {args : List PV} {w : World} {vals : Array Value} (h : PCalls P G f args [] (fun res H => res = pbool true ∧ H = [])) (hG : ∀ g, Rep w (fun b => b < w.heap.size) (G g) (.pointer (some (at_ g 0))))
    (hs : vals.size = args.length) (hr : ∀ (i : Nat) (p : PV), args[i]? = some p → ∃ v : Value, vals[i]? = some v ∧ Rep w (fun b => b < w.heap.size) p v) :
    Calls P f vals w fun e w' => e = .returned (.bool true) ∧ Below w.heap.size w w' := by
  refine (h w (fun b => b < w.heap.size) [] vals (fun _ h => h) hG (by simp) (by simp) (by simp) hs hr).mono ?_
  rintro e w' ⟨v, A', res, Hout, rfl, ⟨rfl, rfl⟩, hrep, hs'⟩
  rw [hrep.val_eq]
  exact ⟨rfl, hs'.ext.below (Nat.le_refl _)⟩
end Go.PM

namespace Go.PM
open Go.Proofs
attribute [local irreducible] W PCalls pcall pcallI WL
end Go.PM

namespace Go.PM
open Go.Proofs
attribute [local irreducible] W PCalls pcall pcallI WL
/-- The digits of a number to the base 256, the least one first. -/
def digsF : Nat → Nat → List UInt8
  | 0, _ => []
  | k + 1, m => if m = 0 then [] else UInt8.ofNat (m % 256) :: digsF k (m / 256)
def digs (m : Nat) : List UInt8 := digsF 9 m
/-- What is encoded of an integer. -/
def magn (n : Int) : Nat := if n < 0 then (-1 - n).toNat else n.toNat
def flipB (n : Int) (d : UInt8) : UInt8 := if n < 0 then 255 - d else d
/-- The encoding of an integer. -/
def intB (n : Int) : List UInt8 := (if n < 0 then UInt8.ofNat (127 - (digs (magn n)).length) else UInt8.ofNat (128 + (digs (magn n)).length)) :: (digs (magn n)).reverse.map (flipB n)
theorem byte_of (k : Nat) (h : k < 256) : pint .u8 (k : Int) = pbyte (UInt8.ofNat k) := by
  have : (UInt8.ofNat k).toNat = k := UInt8.toNat_ofNat_of_lt' (by simpa using h)
  simp only [pbyte, this]
end Go.PM

namespace Go.PM
open Go.Proofs
attribute [local irreducible] W PCalls pcall pcallI WL
theorem digsF_pow : ∀ (k j m : Nat), j ≤ k → ((digsF k m).length ≤ j ↔ m < 256 ^ j ∨ (k = j ∧ 256 ^ j ≤ m))
  | 0, j, m, hj => by
    have : j = 0 := by omega
    subst this
    simp [digsF]
    omega
  | k + 1, 0, m, _ => by
    rw [digsF]
    split
    · rename_i h
      simp [h]
    · rename_i h
      simp
      omega
  | k + 1, j + 1, m, hj => by
    rw [digsF]
    split
    · rename_i h
      subst h
      simp
      exact Nat.pos_of_ne_zero (by simp)
    · rename_i h
      have ih := digsF_pow k j (m / 256) (by omega)
      rw [List.length_cons, Nat.pow_succ]
      have h1 : m / 256 < 256 ^ j ↔ m < 256 ^ j * 256 := by rw [Nat.div_lt_iff_lt_mul (by omega)]
      have h2 : 256 ^ j ≤ m / 256 ↔ 256 ^ j * 256 ≤ m := by rw [Nat.le_div_iff_mul_le (by omega)]
      rw [← h1, ← h2]
      constructor
      · intro hl
        rcases ih.1 (by omega) with h | ⟨h3, h4⟩
        · exact .inl h
        · exact .inr ⟨by omega, h4⟩
      · intro hl
        have := ih.2 (by
          rcases hl with h | ⟨h3, h4⟩
          · exact .inl h
          · exact .inr ⟨by omega, h4⟩)
        omega
theorem digs_pow (j m : Nat) (hj : j ≤ 8) : (digs m).length ≤ j ↔ m < 256 ^ j := by
  have := digsF_pow 9 j m (by omega)
  unfold digs
  rw [this]
  constructor
  · rintro (h | ⟨h, _⟩)
    · exact h
    · omega
  · exact .inl
theorem digsF_get : ∀ (k i m : Nat) (h : i < (digsF k m).length), (digsF k m)[i] = UInt8.ofNat (m / 256 ^ i % 256)
  | 0, i, m, h => by simp [digsF] at h
  | k + 1, i, m, h => by
    by_cases hm : m = 0
    · subst hm
      simp [digsF] at h
    · have e : digsF (k + 1) m = UInt8.ofNat (m % 256) :: digsF k (m / 256) := by rw [digsF, if_neg hm]
      cases i with
      | zero => simp [e]
      | succ i =>
        have h' : i < (digsF k (m / 256)).length := by
          rw [e, List.length_cons] at h
          omega
        have ih := digsF_get k i (m / 256) h'
        simp only [e, List.getElem_cons_succ]
        rw [ih, Nat.div_div_eq_div_mul, Nat.pow_succ, Nat.mul_comm 256]
end Go.PM

namespace Go.PM
open Go.Proofs
attribute [local irreducible] W PCalls pcall pcallI WL
theorem shr_nat (m : Nat) (x : Int) (k : Nat) (hx : x = k) (hk : k ≤ 8) : ((m : Nat) : Int).fdiv (2 ^ min (8 * x).toNat IntKind.u64.bits) = ((m / 256 ^ k : Nat) : Int) := by
  subst hx
  have h1 : min (8 * (k : Int)).toNat IntKind.u64.bits = 8 * k := by
    simp only [IntKind.bits]
    omega
  rw [h1, Int.fdiv_eq_ediv_of_nonneg _ (by exact_mod_cast Nat.zero_le _), show ((2 : Int) ^ (8 * k)) = ((256 ^ k : Nat) : Int) by
    rw [Int.pow_mul]
    norm_cast]
  rfl
theorem wrap_u64 (n : Int) (hn : -9223372036854775808 ≤ n) (hn2 : n ≤ 9223372036854775807) : IntKind.u64.wrap n = if n < 0 then 18446744073709551616 + n else n := by
  simp [IntKind.wrap, IntKind.bits, IntKind.signed]
  split <;> omega
theorem neg_magn (n : Int) (hn : -9223372036854775808 ≤ n) (h : n < 0) : bits .xor .u64 (if IntKind.u64.signed = true then -1 else IntKind.u64.max) (IntKind.u64.wrap n) = ((magn n : Nat) : Int) := by
  rw [wrap_u64 n hn (by omega), if_pos h]
  have e1 : (if IntKind.u64.signed = true then (-1 : Int) else IntKind.u64.max) = ((2 ^ 64 - 1 : Nat) : Int) := by decide
  have e2 : (18446744073709551616 + n) = ((18446744073709551616 + n).toNat : Int) := by omega
  rw [e1, e2, bits_xor_u64_nat _ _ (by decide) (by omega), Go.Lib.xor_ones64 _ (by omega)]
  unfold magn
  rw [if_pos h]
  omega
theorem pos_magn (n : Int) (hn2 : n ≤ 9223372036854775807) (h : ¬ n < 0) : IntKind.u64.wrap n = ((magn n : Nat) : Int) := by
  rw [wrap_u64 n (by omega) hn2, if_neg h]
  unfold magn
  rw [if_neg h]
  omega
theorem xor255 : ∀ b : _root_.Fin 256, bits .xor .u8 ((b.val : Nat) : Int) 255 = ((255 - b.val : Nat) : Int) := by decide +kernel
theorem xor000 : ∀ b : _root_.Fin 256, bits .xor .u8 ((b.val : Nat) : Int) 0 = ((b.val : Nat) : Int) := by decide +kernel
theorem wr8mod (m : Nat) : IntKind.u8.wrap (m : Int) = ((m % 256 : Nat) : Int) := by
  simp [IntKind.wrap, IntKind.bits, IntKind.signed]
/-- What flips the digits. -/
def flipI (n : Int) : Int := if n < 0 then 255 else 0
theorem flip_xor (n : Int) (b : Nat) (h : b < 256) : pint .u8 (bits .xor .u8 ((b : Nat) : Int) (flipI n)) = pbyte (flipB n (UInt8.ofNat b)) := by
  unfold flipI flipB
  split
  · rw [xor255 ⟨b, h⟩, byte_of _ (by simp only; omega)]
    congr 1
    apply UInt8.toNat_inj.1
    rw [UInt8.toNat_sub_of_le _ _ (UInt8.le_iff_toNat_le.2 (by simp; omega))]
    simp
    omega
  · rw [xor000 ⟨b, h⟩, byte_of _ h]
theorem head_xor (n : Int) (k : Nat) (h : k ≤ 8) : pint .u8 (bits .xor .u8 (IntKind.u8.wrap (128 + (k : Int))) (flipI n)) = pbyte (if n < 0 then UInt8.ofNat (127 - k) else UInt8.ofNat (128 + k)) := by
  have e : (128 + (k : Int)) = ((128 + k : Nat) : Int) := by omega
  rw [e, wr8mod, Nat.mod_eq_of_lt (by omega)]
  unfold flipI
  split
  · rw [xor255 ⟨128 + k, by omega⟩, byte_of _ (by simp only; omega)]
    congr 2
    simp only
    omega
  · rw [xor000 ⟨128 + k, by omega⟩, byte_of _ (by omega)]
set_option maxRecDepth 100000 in
set_option maxHeartbeats 8000000 in
theorem wint_r (G : Globs) (n : Int) (hn : -9223372036854775808 ≤ n) (hn2 : n ≤ 9223372036854775807) :
    PCalls Tryd.prog G 23 [pint .i64 n] [] (fun res H => ∃ N, res = .row N 1 (intB n).length ∧ H = [(N, ⟨5, true, 1, (intB n).map pbyte⟩)]) := by
  have hm0 : magn n ≤ 9223372036854775807 := by
    unfold magn
    split <;> omega
  have hx0 : ((magn n : Nat) : Int) ≤ 9223372036854775807 := by omega
  (refine PCalls_f Tryd.func23 rfl Tryd.ntmps23 Tryd.results23 (by simp) fun fin hfin => ?_; have hnm : True := trivial; simp only [ev, simprocAttr])
  repeat' (first
    | (with_reducible apply W_seq_k; intro nx hnx)
    | (with_reducible first | refine wr 253 ?_)
    | ((with_reducible first | (apply WL_op; intro nx hnx) | refine Ev_out ?_ | refine wc ?_ | (refine pf hnm fun nm hnm => ?_; try simp only [fmb] at hnm) | (refine pm hnm fun nm hnm => ?_; try simp only [fmb] at hnm)); try (simp (maxSteps := 2000000) (disch := omega) only [ev, ↓evp, PV.cells, PV.one, PV.mem?, Value.cells, simprocAttr, hnm, Tryd.tf1, Tryd.tf3, Tryd.tf4, Tryd.tf5, Tryd.tf27, Tryd.tf77]))
    | ((with_reducible first | apply W_block | apply W_scope | apply WL_nil | apply W_label | apply W_skip | apply W_exit | apply W_ret) <;> try simp only [kks, simprocAttr])
    | (with_reducible apply pg <;> (intro hc; (try simp only [hcb, simprocAttr, ne_eq, forall_const] at hc); first | (exfalso; omega) | exact absurd trivial hc | skip))
    | (with_reducible apply hnx; clear hnx nx)
    | (with_reducible refine And.intro (by omega) ?_)
    | (with_reducible refine And.intro ?_ ?_)
    | (clear hnx nx; with_reducible apply hnx; clear hnx nx)
    | (clear hnx nx; clear hnx nx; with_reducible apply hnx; clear hnx nx))
  all_goals
    refine W_loop_k (fun kk τ => ∃ k : Nat, k ≤ 8 ∧ kk = k ∧ magn n < 256 ^ k ∧ τ = ⟨fr 47 [(0, pint .i64 n), (3, pint .u64 (magn n)), (4, pint .u8 (flipI n)), (5, pint .i64 k)], []⟩) 8 ⟨fr 47 [(0, pint .i64 n), (3, pint .u64 (magn n)), (4, pint .u8 (flipI n)), (5, pint .i64 (8 : Nat))], []⟩ ?_ ⟨8, by omega, rfl, by omega, rfl⟩ ?_
  all_goals first
    | (rw [show flipI n = 255 from if_pos hc, ← neg_magn n hn hc]
       exact Wk_fr (by simp only [wkb, simprocAttr]) (Sub_nil _))
    | (rw [show flipI n = 0 from if_neg hc, ← pos_magn n hn2 hc]
       exact Wk_fr (by simp only [wkb, simprocAttr]) (Sub_nil _))
    | skip
  all_goals
    rintro kk τ ⟨k, hk, rfl, hlt, rfl⟩ lp hlp
    have hs := shr_nat (magn n) ((kk : Int) - 1) (kk - 1)
    have hs2 : 0 < kk → ((magn n : Nat) : Int).fdiv (2 ^ min (8 * ((kk : Int) - 1)).toNat IntKind.u64.bits) = ((magn n / 256 ^ (kk - 1) : Nat) : Int) := fun h => hs (by omega) (by omega)
    clear hs
    repeat' (first
    | (with_reducible apply W_seq_k; intro nx hnx)
    | (with_reducible first | refine wr 253 ?_)
    | ((with_reducible first | (apply WL_op; intro nx hnx) | refine Ev_out ?_ | refine wc ?_ | (refine pf hnm fun nm hnm => ?_; try simp only [fmb] at hnm) | (refine pm hnm fun nm hnm => ?_; try simp only [fmb] at hnm)); try (simp (maxSteps := 2000000) (disch := omega) only [ev, ↓evp, PV.cells, PV.one, PV.mem?, Value.cells, simprocAttr, hnm, Tryd.tf1, Tryd.tf3, Tryd.tf4, Tryd.tf5, Tryd.tf27, Tryd.tf77, hs2, head_xor]))
    | ((with_reducible first | apply W_block | apply W_scope | apply WL_nil | apply W_label | apply W_skip | apply W_exit | apply W_ret) <;> try simp only [kks, simprocAttr])
    | (with_reducible apply pg <;> (intro hc; (try simp only [hcb, simprocAttr, ne_eq, forall_const] at hc); first | (exfalso; omega) | exact absurd trivial hc | skip))
    | (with_reducible apply hnx; clear hnx nx)
    | (with_reducible refine And.intro (by omega) ?_)
    | (with_reducible refine And.intro ?_ ?_)
    | (clear hnx nx; with_reducible apply hnx; clear hnx nx)
    | (clear hnx nx; clear hnx nx; with_reducible apply hnx; clear hnx nx))
  all_goals first
    | (refine hlp _ (kk - 1) _ (by omega) ?_ ⟨kk - 1, by omega, rfl, ?_, rfl⟩
       · rw [show ((kk - 1 : Nat) : Int) = (kk : Int) - 1 by omega]
         exact Wk_fr (by simp only [wkb, simprocAttr]) (Sub_nil _)
       · have h2 : magn n / 256 ^ (kk - 1) = 0 := Nat.eq_zero_of_not_pos fun h => hc (Int.natCast_pos.2 h)
         exact (Nat.div_eq_zero_iff_lt (Nat.pow_pos (by omega))).1 h2)
    | skip
  all_goals
    have hkl : (digs (magn n)).length = kk := by
      have h1 := (digs_pow kk (magn n) hk).2 hlt
      rcases Nat.eq_zero_or_pos kk with h | h
      · omega
      · rcases Nat.lt_or_ge (digs (magn n)).length kk with h3 | h3
        · exfalso
          have h2 := (digs_pow (kk - 1) (magn n) (by omega)).1 (by omega)
          have h4 := Nat.div_eq_of_lt h2
          first
          | (have h5 : 0 < ((magn n / 256 ^ (kk - 1) : Nat) : Int) := by assumption
             rw [h4] at h5
             exact absurd h5 (by decide))
          | (have h5 : ¬ 0 < (kk : Int) := by assumption
             omega)
        · omega
    obtain ⟨ds, hds⟩ : ∃ ds, ds = digs (magn n) := ⟨_, rfl⟩
    obtain ⟨hd, hhd⟩ : ∃ hd : UInt8, hd = (if n < 0 then UInt8.ofNat (127 - kk) else UInt8.ofNat (128 + kk)) := ⟨_, rfl⟩
    rw [← hds] at hkl
    have hint : intB n = hd :: ds.reverse.map (flipB n) := by
      unfold intB
      rw [← hds, hkl, hhd]
    rw [← hhd]
    clear hhd hs2 hlp lp
    refine W_loop_k (fun z τ => ∃ (q : Nat) (O : Int), q ≤ kk ∧ z = kk - q ∧ τ = ⟨fr 47 [(3, pint .u64 (magn n)), (4, pint .u8 (flipI n)), (6, .row O 1 (q + 1)), (7, pint .i64 ((kk : Int) - 1 - q))], [(O, ⟨5, true, 1, (hd :: (ds.reverse.take q).map (flipB n)).map pbyte⟩)]⟩) kk
      ⟨fr 47 [(3, pint .u64 (magn n)), (4, pint .u8 (flipI n)), (6, .row nm 1 1), (7, pint .i64 ((kk : Int) - 1 - (0 : Nat)))], [(nm, ⟨5, true, 1, [pbyte hd]⟩)]⟩
      (by exact Wk_fr (by simp only [wkb, simprocAttr, Int.sub_zero]) ⟨by simp, by simp [names]⟩) ⟨0, nm, by omega, by omega, by simp⟩ ?_
    rintro z τ ⟨q, O, hq, rfl, rfl⟩ lp2 hlp2
    by_cases hqp : q < kk
    · obtain ⟨j, hj⟩ : ∃ j : Nat, j = kk - 1 - q := ⟨_, rfl⟩
      have hz : (kk : Int) - 1 - q = j := by omega
      have hdj : j < ds.length := by omega
      have hs := shr_nat (magn n) (j : Int) j rfl (by omega)
      have hw := wr8mod (magn n / 256 ^ j)
      have hx := flip_xor n (magn n / 256 ^ j % 256) (Nat.mod_lt _ (by omega))
      have hdg : UInt8.ofNat (magn n / 256 ^ j % 256) = ds[j] := by
        subst hds
        exact (digsF_get 9 j (magn n) hdj).symm
      have htk : ds.reverse.take (q + 1) = ds.reverse.take q ++ [ds[j]] := by
        rw [List.take_add_one, List.getElem?_reverse (by omega), show ds.length - 1 - q = j by omega, List.getElem?_eq_getElem hdj]
        rfl
      rw [hdg] at hx
      rw [hz]
      repeat' (first
    | (with_reducible apply W_seq_k; intro nx hnx)
    | (with_reducible first | refine wr 253 ?_)
    | ((with_reducible first | (apply WL_op; intro nx hnx) | refine Ev_out ?_ | refine wc ?_ | (refine pf hnm fun nm hnm => ?_; try simp only [fmb] at hnm) | (refine pm hnm fun nm hnm => ?_; try simp only [fmb] at hnm)); try (simp (maxSteps := 2000000) (disch := omega) only [ev, ↓evp, PV.cells, PV.one, PV.mem?, Value.cells, simprocAttr, hnm, Tryd.tf1, Tryd.tf3, Tryd.tf4, Tryd.tf5, Tryd.tf27, Tryd.tf77, hs, hw, hx]))
    | ((with_reducible first | apply W_block | apply W_scope | apply WL_nil | apply W_label | apply W_skip | apply W_exit | apply W_ret) <;> try simp only [kks, simprocAttr])
    | (with_reducible apply pg <;> (intro hc; (try simp only [hcb, simprocAttr, ne_eq, forall_const] at hc); first | (exfalso; omega) | exact absurd trivial hc | skip))
    | (with_reducible apply hnx; clear hnx nx)
    | (with_reducible refine And.intro (by omega) ?_)
    | (with_reducible refine And.intro ?_ ?_)
    | (clear hnx nx; with_reducible apply hnx; clear hnx nx)
    | (clear hnx nx; clear hnx nx; with_reducible apply hnx; clear hnx nx))
      all_goals first
        | (exfalso
           omega)
        | (simp
           omega)
        | (have hz2 : (j : Int) - 1 = (kk : Int) - 1 - ((q + 1 : Nat) : Int) := by omega
           rw [hz2]
           refine hlp2 _ (kk - (q + 1)) _ (by omega) ?_ ⟨q + 1, nm, by omega, rfl, rfl⟩
           refine Wk_fr (by simp only [wkb, simprocAttr, List.length_append, List.length_cons, List.length_nil, Nat.zero_add]) ?_
           refine ⟨fun x hx => ?_, by simp [names]⟩
           simp only [List.mem_cons, List.not_mem_nil, or_false] at hx ⊢
           subst hx
           left
           rw [htk]
           simp only [List.map_cons, List.map_append, List.map_nil, List.cons_append])
    · repeat' (first
    | (with_reducible apply W_seq_k; intro nx hnx)
    | (with_reducible first | refine wr 253 ?_)
    | ((with_reducible first | (apply WL_op; intro nx hnx) | refine Ev_out ?_ | refine wc ?_ | (refine pf hnm fun nm hnm => ?_; try simp only [fmb] at hnm) | (refine pm hnm fun nm hnm => ?_; try simp only [fmb] at hnm)); try (simp (maxSteps := 2000000) (disch := omega) only [ev, ↓evp, PV.cells, PV.one, PV.mem?, Value.cells, simprocAttr, hnm, Tryd.tf1, Tryd.tf3, Tryd.tf4, Tryd.tf5, Tryd.tf27, Tryd.tf77]))
    | ((with_reducible first | apply W_block | apply W_scope | apply WL_nil | apply W_label | apply W_skip | apply W_exit | apply W_ret) <;> try simp only [kks, simprocAttr])
    | (with_reducible apply pg <;> (intro hc; (try simp only [hcb, simprocAttr, ne_eq, forall_const] at hc); first | (exfalso; omega) | exact absurd trivial hc | skip))
    | (with_reducible apply hnx; clear hnx nx)
    | (with_reducible refine And.intro (by omega) ?_)
    | (with_reducible refine And.intro ?_ ?_)
    | (clear hnx nx; with_reducible apply hnx; clear hnx nx)
    | (clear hnx nx; clear hnx nx; with_reducible apply hnx; clear hnx nx))
      refine hfin _ _ (Fin_ret1 rfl (Sub_refl (by simp [names])) ?_); simp only [cob, simprocAttr]
      have hqe : q = kk := by omega
      rw [hint]
      refine ⟨O, ?_, ?_⟩
      · simp [hqe, hkl]
      · rw [List.take_of_length_le (by simp; omega)]
        rfl
theorem wint_c (G : Globs) (n : Int) (hn : -9223372036854775808 ≤ n) (hn2 : n ≤ 9223372036854775807) :
    PCalls Tryd.prog G 23 [pint .i64 n] [] (fun res H => res = .list 1 ((intB n).map pbyte) ∧ H = []) := by
  have := (wint_r G n hn hn2).frz_row (xs := (intB n).map pbyte) fun res H h => by
    obtain ⟨N, h1, h2⟩ := h
    exact ⟨N, 5, by rw [List.length_map]; exact h1, h2⟩
  exact this
end Go.PM

namespace Go.PM
open Go.Proofs
attribute [local irreducible] W PCalls pcall pcallI WL
/-- The number of digits that a first byte tells of. -/
def kOf (h : UInt8) : Nat := if h.toNat < 128 then 127 - h.toNat else h.toNat - 128
def flD (h d : UInt8) : UInt8 := if h.toNat < 128 then 255 - d else d
def valB (ds : List UInt8) : Nat := ds.foldl (fun m d => 256 * m + d.toNat) 0
def flI (h : UInt8) : Int := if h.toNat < 128 then 255 else 0
/-- What is decoded: the integer, the number of bytes, the error. -/
def gI : List UInt8 → Int × Nat × Int
  | [] => (0, 0, 3)
  | h :: t =>
    if 8 < kOf h then (0, 0, 2)
    else if t.length < kOf h then (0, 0, 3)
    else if ((t.take (kOf h)).map (flD h)).head? = some 0 ∨ 9223372036854775808 ≤ valB ((t.take (kOf h)).map (flD h)) then (0, 0, 2)
    else (if h.toNat < 128 then -1 - (valB ((t.take (kOf h)).map (flD h)) : Int) else valB ((t.take (kOf h)).map (flD h)), kOf h + 1, 0)
@[reducible] def t3 (x : Int × Nat × Int) : PV := .tuple [pint .i64 x.1, pint .i64 x.2.1, pint .i64 x.2.2]
theorem xor255u (b : UInt8) : bits .xor .u8 ((b.toNat : Nat) : Int) 255 = (((255 - b).toNat : Nat) : Int) := by
  have h := b.toNat_lt
  rw [xor255 ⟨b.toNat, h⟩, UInt8.toNat_sub_of_le _ _ (UInt8.le_iff_toNat_le.2 (by simp; omega))]
  rfl
theorem xor000u (b : UInt8) : bits .xor .u8 ((b.toNat : Nat) : Int) 0 = ((b.toNat : Nat) : Int) := xor000 ⟨b.toNat, b.toNat_lt⟩
theorem sub255 (b : UInt8) : (255 - b).toNat = 255 - b.toNat := by
  have h := b.toNat_lt
  exact UInt8.toNat_sub_of_le _ _ (UInt8.le_iff_toNat_le.2 (by simp; omega))
theorem or_shift (m d : Nat) (hm : m < 2 ^ 56) (hd : d < 256) : bits .or .u64 (IntKind.u64.wrap (((m : Nat) : Int) * 2 ^ min 8 IntKind.u64.bits)) (IntKind.u64.wrap (d : Int)) = ((256 * m + d : Nat) : Int) := by
  have e1 : IntKind.u64.wrap (((m : Nat) : Int) * 2 ^ min 8 IntKind.u64.bits) = ((2 ^ 8 * m : Nat) : Int) := by
    simp [IntKind.wrap, IntKind.bits, IntKind.signed]
    omega
  have e2 : IntKind.u64.wrap (d : Int) = (d : Int) := by
    simp [IntKind.wrap, IntKind.bits, IntKind.signed]
    omega
  rw [e1, e2, bits_or_u64_nat _ _ (by omega) (by omega), ← Nat.two_pow_add_eq_or_of_lt (by omega)]
theorem wrap_not (m : Nat) (h : m < 9223372036854775808) : IntKind.i64.wrap (bits .xor .u64 (if IntKind.u64.signed = true then -1 else IntKind.u64.max) (m : Int)) = -1 - (m : Int) := by
  have e1 : (if IntKind.u64.signed = true then (-1 : Int) else IntKind.u64.max) = ((2 ^ 64 - 1 : Nat) : Int) := by decide
  rw [e1, bits_xor_u64_nat _ _ (by decide) (by omega), Go.Lib.xor_ones64 _ (by omega)]
  simp [IntKind.wrap, IntKind.bits, IntKind.signed]
  omega
theorem flx (h d : UInt8) : bits .xor .u8 ((d.toNat : Nat) : Int) (flI h) = (((flD h d).toNat : Nat) : Int) := by
  unfold flI flD
  split
  · exact xor255u d
  · exact xor000u d
theorem valB_snoc (l : List UInt8) (d : UInt8) : valB (l ++ [d]) = 256 * valB l + d.toNat := by simp [valB]
theorem valR_lt : ∀ l : List UInt8, valB l.reverse < 256 ^ l.length
  | [] => by simp [valB]
  | d :: l => by
    have := d.toNat_lt
    have := valR_lt l
    rw [List.reverse_cons, valB_snoc, List.length_cons, Nat.pow_succ]
    omega
theorem valB_lt (l : List UInt8) : valB l < 256 ^ l.length := by
  have := valR_lt l.reverse
  rwa [List.reverse_reverse, List.length_reverse] at this
theorem gI_form {h : UInt8} {t : List UInt8} (hk : 8 < kOf h) : gI (h :: t) = (0, 0, 2) := by rw [gI, if_pos hk]
theorem gI_more {h : UInt8} {t : List UInt8} (hk : ¬ 8 < kOf h) (ht : t.length < kOf h) : gI (h :: t) = (0, 0, 3) := by rw [gI, if_neg hk, if_pos ht]
theorem gI_bad {h : UInt8} {t : List UInt8} (hk : ¬ 8 < kOf h) (ht : ¬ t.length < kOf h) (hb : ((t.take (kOf h)).map (flD h)).head? = some 0 ∨ 9223372036854775808 ≤ valB ((t.take (kOf h)).map (flD h))) : gI (h :: t) = (0, 0, 2) := by rw [gI, if_neg hk, if_neg ht, if_pos hb]
theorem gI_good {h : UInt8} {t : List UInt8} (hk : ¬ 8 < kOf h) (ht : ¬ t.length < kOf h) (hb : ¬ (((t.take (kOf h)).map (flD h)).head? = some 0 ∨ 9223372036854775808 ≤ valB ((t.take (kOf h)).map (flD h)))) :
    gI (h :: t) = (if h.toNat < 128 then -1 - (valB ((t.take (kOf h)).map (flD h)) : Int) else valB ((t.take (kOf h)).map (flD h)), kOf h + 1, 0) := by rw [gI, if_neg hk, if_neg ht, if_neg hb]
set_option maxRecDepth 100000 in
set_option maxHeartbeats 8000000 in
theorem getInt_c (G : Globs) (b : List UInt8) (hb : (b.length : Int) ≤ 4611686018427387904) :
    PCalls Tryd.prog G 56 [.list 1 (b.map pbyte)] [] (fun res H => res = t3 (gI b) ∧ H = []) := by
  cases b with
  | nil =>
    (refine PCalls_f Tryd.func56 rfl Tryd.ntmps56 Tryd.results56 (by simp) fun fin hfin => ?_; have hnm : True := trivial; simp only [ev, simprocAttr])
    repeat' (first
    | (with_reducible apply W_seq_k; intro nx hnx)
    | (with_reducible first | refine wr 492581209244413 ?_)
    | ((with_reducible first | (apply WL_op; intro nx hnx) | refine Ev_out ?_ | refine wc ?_ | (refine pf hnm fun nm hnm => ?_; try simp only [fmb] at hnm) | (refine pm hnm fun nm hnm => ?_; try simp only [fmb] at hnm)); try (simp (maxSteps := 2000000) (disch := omega) only [ev, ↓evp, PV.cells, PV.one, PV.mem?, Value.cells, simprocAttr, hnm, Tryd.tf0, Tryd.tf3, Tryd.tf4, Tryd.tf5, Tryd.tf27, Tryd.tf28, Tryd.tf77, Tryd.tf131]))
    | ((with_reducible first | apply W_block | apply W_scope | apply WL_nil | apply W_label | apply W_skip | apply W_exit | apply W_ret) <;> try simp only [kks, simprocAttr])
    | (with_reducible apply pg <;> (intro hc; (try simp only [hcb, simprocAttr, ne_eq, forall_const] at hc); first | (exfalso; omega) | exact absurd trivial hc | skip))
    | (with_reducible apply hnx; clear hnx nx)
    | (with_reducible refine And.intro (by omega) ?_)
    | (with_reducible refine And.intro ?_ ?_)
    | (clear hnx nx; with_reducible apply hnx; clear hnx nx)
    | (clear hnx nx; clear hnx nx; with_reducible apply hnx; clear hnx nx))
    refine hfin _ _ (Fin_ret3 rfl rfl rfl (Sub_nil _) ?_); simp only [cob, simprocAttr]
    simp [gI]
  | cons h t =>
    have hh := h.toNat_lt
    rw [List.length_cons] at hb
    have hk1 : h.toNat < 128 → ((255 - h.toNat : Nat) : Int) - 128 = (kOf h : Int) := fun h1 => by
      unfold kOf
      rw [if_pos h1]
      omega
    have hk2 : ¬ h.toNat < 128 → (h.toNat : Int) - 128 = (kOf h : Int) := fun h1 => by
      unfold kOf
      rw [if_neg h1]
      omega
    have hk3 : h.toNat < 128 → kOf h ≤ 127 := fun h1 => by omega
    obtain ⟨k, hk⟩ : ∃ k, k = kOf h := ⟨_, rfl⟩
    rw [← hk] at hk1 hk2
    have hkb : k ≤ 128 := by
      rcases Nat.lt_or_ge h.toNat 128 with h1 | h1
      · have := hk1 h1
        omega
      · have := hk2 (by omega)
        omega
    (refine PCalls_f Tryd.func56 rfl Tryd.ntmps56 Tryd.results56 (by simp) fun fin hfin => ?_; have hnm : True := trivial; simp only [ev, simprocAttr])
    repeat' (first
    | (with_reducible apply W_seq_k; intro nx hnx)
    | (with_reducible first | refine wr 492581209244413 ?_)
    | ((with_reducible first | (apply WL_op; intro nx hnx) | refine Ev_out ?_ | refine wc ?_ | (refine pf hnm fun nm hnm => ?_; try simp only [fmb] at hnm) | (refine pm hnm fun nm hnm => ?_; try simp only [fmb] at hnm)); try (simp (maxSteps := 2000000) (disch := omega) only [ev, ↓evp, PV.cells, PV.one, PV.mem?, Value.cells, simprocAttr, hnm, Tryd.tf0, Tryd.tf3, Tryd.tf4, Tryd.tf5, Tryd.tf27, Tryd.tf28, Tryd.tf77, Tryd.tf131, xor255u, xor000u, sub255, hk1, hk2, List.take_succ_cons, List.drop_succ_cons]))
    | ((with_reducible first | apply W_block | apply W_scope | apply WL_nil | apply W_label | apply W_skip | apply W_exit | apply W_ret) <;> try simp only [kks, simprocAttr])
    | (with_reducible apply pg <;> (intro hc; (try simp only [hcb, simprocAttr, ne_eq, forall_const] at hc); first | (exfalso; omega) | exact absurd trivial hc | skip))
    | (with_reducible apply hnx; clear hnx nx)
    | (with_reducible refine And.intro (by omega) ?_)
    | (with_reducible refine And.intro ?_ ?_)
    | (clear hnx nx; with_reducible apply hnx; clear hnx nx)
    | (clear hnx nx; clear hnx nx; with_reducible apply hnx; clear hnx nx))
    all_goals first
      | (refine hfin _ _ (Fin_ret3 rfl rfl rfl (Sub_nil _) ?_); simp only [cob, simprocAttr]
         rw [gI_form (h := h) (t := t) (by omega)]
         exact ⟨rfl, by trivial⟩)
      | (refine hfin _ _ (Fin_ret3 rfl rfl rfl (Sub_nil _) ?_); simp only [cob, simprocAttr]
         rw [gI_more (h := h) (t := t) (by omega) (by omega)]
         exact ⟨rfl, by trivial⟩)
      | (refine hfin _ _ (Fin_ret3 rfl rfl rfl (Sub_nil _) ?_); simp only [cob, simprocAttr]
         rw [gI_bad (h := h) (t := t) (by omega) (by omega) (.inl (by
           have htl : 0 < t.length := by omega
           obtain ⟨d, t', rfl⟩ : ∃ d t', t = d :: t' := by
             cases t with
             | nil => exact absurd htl (by simp)
             | cons d t' => exact ⟨d, t', rfl⟩
           obtain ⟨k', hk'⟩ : ∃ k', kOf h = k' + 1 := ⟨kOf h - 1, by omega⟩
           rw [hk', List.take_succ_cons, List.map_cons, List.head?_cons]
           congr 1
           apply UInt8.toNat_inj.1
           simp only [List.getElem_cons_zero] at hc
           unfold flD
           first
           | (rw [if_pos (by omega), sub255]
              simp
              omega)
           | (rw [if_neg (by omega)]
              simp
              omega)))]
         exact ⟨rfl, by trivial⟩)
      | skip
    all_goals
      have hfl : flI h = 255 ∧ h.toNat < 128 ∨ flI h = 0 ∧ ¬ h.toNat < 128 := by
        unfold flI
        by_cases h1 : h.toNat < 128
        · exact .inl ⟨if_pos h1, h1⟩
        · exact .inr ⟨if_neg h1, h1⟩
      have hkt : min k t.length = k := by omega
      have hz : ¬ (((t.take (kOf h)).map (flD h)).head? = some 0) := by
        cases t with
        | nil => simp
        | cons d t' =>
          rcases Nat.eq_zero_or_pos (kOf h) with h0 | h0
          · simp [h0]
          · obtain ⟨k', hk'⟩ : ∃ k', kOf h = k' + 1 := ⟨kOf h - 1, by omega⟩
            rw [hk', List.take_succ_cons, List.map_cons, List.head?_cons]
            intro he
            have he := congrArg UInt8.toNat (Option.some.inj he)
            try simp only [List.getElem_cons_zero] at hc
            unfold flD at he
            first
            | omega
            | (rw [if_pos (by omega), sub255] at he
               exact hc (by simpa using he))
            | (rw [if_neg (by omega)] at he
               exact hc (by simpa using he))
      obtain ⟨raw, hraw⟩ : ∃ raw, raw = t.take k := ⟨_, rfl⟩
      have hrl : raw.length = k := by rw [hraw, List.length_take, hkt]
      have hgood := gI_good (h := h) (t := t) (by omega) (by omega)
      have hbad := gI_bad (h := h) (t := t) (by omega) (by omega)
      rw [← hk, ← hraw] at hgood hbad hz
      obtain ⟨ds, hds⟩ : ∃ ds, ds = raw.map (flD h) := ⟨_, rfl⟩
      have hdl : ds.length = k := by rw [hds, List.length_map, hrl]
      rw [← hds] at hgood hbad hz
      have hvl := valB_lt ds
      have hpw : 256 ^ ds.length ≤ 256 ^ 8 := Nat.pow_le_pow_right (by omega) (by omega)
      refine W_loop_k (fun z τ => ∃ i : Nat, i ≤ k ∧ z = k - i ∧ τ = ⟨fr 71 [(5, pint .u8 (flI h)), (6, pint .i64 k), (7, pint .u64 (valB (ds.take i))), (46, .list 1 (raw.map pbyte)), (47, pint .i64 k), (48, pint .i64 i)], []⟩) k ⟨fr 71 [(5, pint .u8 (flI h)), (6, pint .i64 k), (7, pint .u64 (valB (ds.take 0))), (46, .list 1 (raw.map pbyte)), (47, pint .i64 k), (48, pint .i64 (0 : Nat))], []⟩ ?_ ⟨0, by omega, by omega, rfl⟩ ?_
    all_goals first
      | (rcases hfl with ⟨h1, h2⟩ | ⟨h1, h2⟩
         all_goals first
           | (exfalso
              omega)
           | (rw [h1, hraw, List.map_take]
              exact Wk_fr (by simp only [wkb, simprocAttr, hkt, List.take_zero, valB, List.foldl_nil]) (Sub_nil _)))
      | skip
    all_goals
      rintro z τ ⟨i, hi, rfl, rfl⟩ lp hlp
      have hs63 : ((valB ds : Nat) : Int).fdiv (2 ^ min 63 IntKind.u64.bits) = ((valB ds / 2 ^ 63 : Nat) : Int) := by
        rw [show min 63 IntKind.u64.bits = 63 by decide, Int.fdiv_eq_ediv_of_nonneg _ (by decide)]
        rfl
      by_cases hik : i < k
      · have hri : i < raw.length := by omega
        have hdi : i < ds.length := by omega
        have hor : bits .or .u64 (IntKind.u64.wrap (((valB (ds.take i) : Nat) : Int) * 2 ^ min 8 IntKind.u64.bits)) (IntKind.u64.wrap (((flD h raw[i]).toNat : Nat) : Int)) = ((valB (ds.take (i + 1)) : Nat) : Int) := by
          have h1 := valB_lt (ds.take i)
          have h2 : 256 ^ (ds.take i).length ≤ 256 ^ 7 := Nat.pow_le_pow_right (by omega) (by rw [List.length_take]; omega)
          rw [or_shift _ _ (by omega) (flD h raw[i]).toNat_lt, List.take_add_one, List.getElem?_eq_getElem hdi, Option.toList_some, valB_snoc]
          have : ds[i] = flD h raw[i] := by simp [hds]
          rw [this]
        repeat' (first
    | (with_reducible apply W_seq_k; intro nx hnx)
    | (with_reducible first | refine wr 492581209244413 ?_)
    | ((with_reducible first | (apply WL_op; intro nx hnx) | refine Ev_out ?_ | refine wc ?_ | (refine pf hnm fun nm hnm => ?_; try simp only [fmb] at hnm) | (refine pm hnm fun nm hnm => ?_; try simp only [fmb] at hnm)); try (simp (maxSteps := 2000000) (disch := omega) only [ev, ↓evp, PV.cells, PV.one, PV.mem?, Value.cells, simprocAttr, hnm, Tryd.tf0, Tryd.tf3, Tryd.tf4, Tryd.tf5, Tryd.tf27, Tryd.tf28, Tryd.tf77, Tryd.tf131, flx, hor]))
    | ((with_reducible first | apply W_block | apply W_scope | apply WL_nil | apply W_label | apply W_skip | apply W_exit | apply W_ret) <;> try simp only [kks, simprocAttr])
    | (with_reducible apply pg <;> (intro hc; (try simp only [hcb, simprocAttr, ne_eq, forall_const] at hc); first | (exfalso; omega) | exact absurd trivial hc | skip))
    | (with_reducible apply hnx; clear hnx nx)
    | (with_reducible refine And.intro (by omega) ?_)
    | (with_reducible refine And.intro ?_ ?_)
    | (clear hnx nx; with_reducible apply hnx; clear hnx nx)
    | (clear hnx nx; clear hnx nx; with_reducible apply hnx; clear hnx nx))
        all_goals first
          | (exfalso
             omega)
          | (refine hlp _ (k - (i + 1)) _ (by omega) ?_ ⟨i + 1, by omega, rfl, rfl⟩
             exact Wk_fr (by simp only [wkb, simprocAttr]) (Sub_nil _))
      · have hik2 : i = k := by omega
        subst hik2
        rw [List.take_of_length_le (by omega)]
        repeat' (first
    | (with_reducible apply W_seq_k; intro nx hnx)
    | (with_reducible first | refine wr 492581209244413 ?_)
    | ((with_reducible first | (apply WL_op; intro nx hnx) | refine Ev_out ?_ | refine wc ?_ | (refine pf hnm fun nm hnm => ?_; try simp only [fmb] at hnm) | (refine pm hnm fun nm hnm => ?_; try simp only [fmb] at hnm)); try (simp (maxSteps := 2000000) (disch := omega) only [ev, ↓evp, PV.cells, PV.one, PV.mem?, Value.cells, simprocAttr, hnm, Tryd.tf0, Tryd.tf3, Tryd.tf4, Tryd.tf5, Tryd.tf27, Tryd.tf28, Tryd.tf77, Tryd.tf131, hs63]))
    | ((with_reducible first | apply W_block | apply W_scope | apply WL_nil | apply W_label | apply W_skip | apply W_exit | apply W_ret) <;> try simp only [kks, simprocAttr])
    | (with_reducible apply pg <;> (intro hc; (try simp only [hcb, simprocAttr, ne_eq, forall_const] at hc); first | (exfalso; omega) | exact absurd trivial hc | skip))
    | (with_reducible apply hnx; clear hnx nx)
    | (with_reducible refine And.intro (by omega) ?_)
    | (with_reducible refine And.intro ?_ ?_)
    | (clear hnx nx; with_reducible apply hnx; clear hnx nx)
    | (clear hnx nx; clear hnx nx; with_reducible apply hnx; clear hnx nx))
        all_goals first
          | (exfalso
             omega)
          | (refine hfin _ _ (Fin_ret3 rfl rfl rfl (Sub_nil _) ?_); simp only [cob, simprocAttr]
             rw [hbad (.inr (by omega))]
             exact ⟨rfl, by trivial⟩)
          | skip
        all_goals
          have hv : valB ds < 9223372036854775808 := by omega
          have hgd := hgood (by
               rintro (h1 | h1)
               · exact hz h1
               · omega)
          refine hfin _ _ (Fin_ret3 rfl rfl rfl (Sub_nil _) ?_); simp only [cob, simprocAttr]
          rw [hgd]
        all_goals first
          | (rw [if_neg (show ¬ h.toNat < 128 by omega)]
             exact ⟨rfl, by trivial⟩)
          | (rw [if_pos (show h.toNat < 128 by omega), wrap_not _ hv]
             exact ⟨rfl, by trivial⟩)
end Go.PM

namespace Go.PM
open Go.Proofs
def valL : List UInt8 → Nat
  | [] => 0
  | d :: l => 256 * valL l + d.toNat
theorem valB_rev : ∀ l : List UInt8, valB l.reverse = valL l
  | [] => rfl
  | d :: l => by rw [List.reverse_cons, valB_snoc, valB_rev l, valL]
theorem valB_eq (l : List UInt8) : valB l = valL l.reverse := by rw [← valB_rev, List.reverse_reverse]
theorem valL_pos : ∀ (l : List UInt8) (h : l ≠ []), l.getLast h ≠ 0 → 0 < valL l
  | [d], _, h => by
    simp only [valL, List.getLast_singleton] at h ⊢
    have : d.toNat ≠ 0 := fun e => h (UInt8.toNat_inj.1 e)
    omega
  | d :: e :: l, _, h => by
    have := valL_pos (e :: l) (by simp) (by simpa using h)
    rw [valL]
    omega
theorem digsF_valL : ∀ (k : Nat) (l : List UInt8), l.length ≤ k → (∀ h : l ≠ [], l.getLast h ≠ 0) → digsF k (valL l) = l
  | 0, l, h, _ => by
    have : l = [] := List.length_eq_zero_iff.1 (by omega)
    subst this
    rfl
  | k + 1, [], _, _ => by rw [digsF]; rfl
  | k + 1, d :: l, h, hz => by
    have hp := valL_pos (d :: l) (by simp) (hz (by simp))
    have hd := d.toNat_lt
    have h2 : digsF k (valL l) = l := digsF_valL k l (by simp at h; omega) fun hl => by
      have := hz (by simp)
      rwa [List.getLast_cons hl] at this
    rw [digsF, if_neg (by omega), valL, show (256 * valL l + d.toNat) / 256 = valL l by omega, h2, show (256 * valL l + d.toNat) % 256 = d.toNat by omega]
    simp
theorem valL_digsF : ∀ (k m : Nat), m < 256 ^ k → valL (digsF k m) = m
  | 0, m, h => by
    rw [digsF, valL]
    simp at h
    omega
  | k + 1, m, h => by
    rw [digsF]
    split
    · rename_i h0
      rw [h0]
      rfl
    · have h1 : m / 256 < 256 ^ k := by
        rw [Nat.pow_succ] at h
        exact Nat.div_lt_of_lt_mul (by rw [Nat.mul_comm]; exact h)
      rw [valL, valL_digsF k _ h1]
      have : (UInt8.ofNat (m % 256)).toNat = m % 256 := UInt8.toNat_ofNat_of_lt' (show _ < 256 by omega)
      rw [this]
      omega
theorem digsF_last : ∀ (k m : Nat), m < 256 ^ k → ∀ h : digsF k m ≠ [], (digsF k m).getLast h ≠ 0
  | 0, m, _, h => absurd rfl h
  | k + 1, m, hm, h => by
    by_cases h0 : m = 0
    · subst h0
      exact absurd (by rw [digsF]; rfl) h
    · have e : digsF (k + 1) m = UInt8.ofNat (m % 256) :: digsF k (m / 256) := by rw [digsF, if_neg h0]
      have h1 : m / 256 < 256 ^ k := by
        rw [Nat.pow_succ] at hm
        exact Nat.div_lt_of_lt_mul (by rw [Nat.mul_comm]; exact hm)
      simp only [e]
      by_cases hn : digsF k (m / 256) = []
      · have hv := valL_digsF k _ h1
        rw [hn] at hv
        simp only [valL] at hv
        simp only [hn, List.getLast_singleton]
        intro e2
        have := congrArg UInt8.toNat e2
        rw [UInt8.toNat_ofNat_of_lt' (show _ < 256 by omega)] at this
        simp at this
        omega
      · rw [List.getLast_cons hn]
        exact digsF_last k _ h1 hn
theorem digs_len (m : Nat) (h : m < 9223372036854775808) : (digs m).length ≤ 8 := (digs_pow 8 m (by omega)).2 (by omega)
theorem digs_val (m : Nat) (h : m < 9223372036854775808) : valB (digs m).reverse = m := by
  rw [valB_rev]
  exact valL_digsF 9 m (by omega)
theorem head_ne (l : List UInt8) (h : ∀ h : l ≠ [], l.getLast h ≠ 0) : l.reverse.head? ≠ some 0 := by
  rw [List.head?_reverse]
  intro e
  obtain ⟨h1, h2⟩ := List.getLast?_eq_some_iff.1 e
  subst h2
  exact h (by simp) (by simp)
theorem digs_head (m : Nat) (h : m < 9223372036854775808) : (digs m).reverse.head? ≠ some 0 := head_ne _ (digsF_last 9 m (by omega))
/-- Digits without a zero ahead are those of their number. -/
theorem digs_of (l : List UInt8) (hl : l.length ≤ 8) (h : l.head? ≠ some 0) : digs (valB l) = l.reverse := by
  rw [valB_eq]
  refine digsF_valL 9 _ (by simp; omega) fun hn e => h ?_
  rw [← List.reverse_reverse l, List.head?_reverse, List.getLast?_eq_some_getLast hn, e]
def hdB (n : Int) (k : Nat) : UInt8 := if n < 0 then UInt8.ofNat (127 - k) else UInt8.ofNat (128 + k)
theorem intB_eq (n : Int) : intB n = hdB n (digs (magn n)).length :: (digs (magn n)).reverse.map (flipB n) := rfl
theorem hdB_nat (n : Int) (k : Nat) (h : k ≤ 8) : (hdB n k).toNat = if n < 0 then 127 - k else 128 + k := by
  unfold hdB
  split
  · rw [UInt8.toNat_ofNat_of_lt' (show _ < 256 by omega)]
  · rw [UInt8.toNat_ofNat_of_lt' (show _ < 256 by omega)]
theorem hdB_kOf (n : Int) (k : Nat) (h : k ≤ 8) : kOf (hdB n k) = k := by
  unfold kOf
  rw [hdB_nat n k h]
  split <;> split <;> omega
theorem hdB_neg (n : Int) (k : Nat) (h : k ≤ 8) : (hdB n k).toNat < 128 ↔ n < 0 := by
  rw [hdB_nat n k h]
  split
  · exact ⟨fun _ => by assumption, fun _ => by omega⟩
  · exact ⟨fun _ => by omega, fun _ => by omega⟩
theorem sub_sub_u8 (d : UInt8) : 255 - (255 - d) = d := by
  apply UInt8.toNat_inj.1
  have := d.toNat_lt
  rw [sub255, sub255]
  omega
theorem flD_flip (n : Int) (k : Nat) (h : k ≤ 8) (d : UInt8) : flD (hdB n k) (flipB n d) = d := by
  unfold flD flipB
  by_cases hn : n < 0
  · rw [if_pos ((hdB_neg n k h).2 hn), if_pos hn, sub_sub_u8]
  · rw [if_neg (fun e => hn ((hdB_neg n k h).1 e)), if_neg hn]
abbrev inR (n : Int) : Prop := -9223372036854775808 ≤ n ∧ n ≤ 9223372036854775807
theorem magn_lt {n : Int} (h : inR n) : magn n < 9223372036854775808 := by
  unfold magn
  split <;> omega
theorem magn_of (n : Int) : n = if n < 0 then -1 - (magn n : Int) else magn n := by
  unfold magn
  split <;> omega
theorem intB_len (n : Int) : (intB n).length = (digs (magn n)).length + 1 := by simp [intB_eq]
theorem intB_len9 {n : Int} (h : inR n) : 1 ≤ (intB n).length ∧ (intB n).length ≤ 9 := by
  have := digs_len _ (magn_lt h)
  rw [intB_len]
  omega
theorem gI_intB {n : Int} (h : inR n) (t : List UInt8) : gI (intB n ++ t) = (n, (intB n).length, 0) := by
  have hk := digs_len _ (magn_lt h)
  have hm := magn_lt h
  rw [intB_eq, List.cons_append]
  have hko := hdB_kOf n _ hk
  have hds : ((((digs (magn n)).reverse.map (flipB n) ++ t).take (digs (magn n)).length).map (flD (hdB n (digs (magn n)).length))) = (digs (magn n)).reverse := by
    rw [List.take_append_of_le_length (by simp), List.take_of_length_le (by simp), List.map_map]
    conv => rhs; rw [← List.map_id (digs (magn n)).reverse]
    exact List.map_congr_left fun d _ => flD_flip n _ hk d
  rw [gI_good (by omega) (by rw [hko]; simp), hko, hds, digs_val _ hm]
  · have := magn_of n
    by_cases hn : n < 0
    · rw [if_pos ((hdB_neg n _ hk).2 hn)]
      rw [if_pos hn] at this
      rw [← this]
      simp
    · rw [if_neg (fun e => hn ((hdB_neg n _ hk).1 e))]
      rw [if_neg hn] at this
      rw [← this]
      simp
  · rw [hko, hds, digs_val _ hm]
    rintro (h1 | h1)
    · exact digs_head _ hm h1
    · omega
theorem kOf_hd (h : UInt8) (n : Int) (hk : kOf h ≤ 8) (hn : n < 0 ↔ h.toNat < 128) : hdB n (kOf h) = h := by
  apply UInt8.toNat_inj.1
  rw [hdB_nat n _ hk]
  have := h.toNat_lt
  unfold kOf
  by_cases h1 : h.toNat < 128
  · rw [if_pos (hn.2 h1), if_pos h1]
    omega
  · rw [if_neg (fun e => h1 (hn.1 e)), if_neg h1]
    omega
theorem flip_flD (n : Int) (h d : UInt8) (hn : n < 0 ↔ h.toNat < 128) : flipB n (flD h d) = d := by
  unfold flD flipB
  by_cases h1 : h.toNat < 128
  · rw [if_pos (hn.2 h1), if_pos h1, sub_sub_u8]
  · rw [if_neg (fun e => h1 (hn.1 e)), if_neg h1]
theorem magn_sgn (m : Nat) (b : Prop) [Decidable b] : magn (if b then -1 - (m : Int) else m) = m ∧ ((if b then -1 - (m : Int) else m) < 0 ↔ b) := by
  by_cases hb : b
  · rw [if_pos hb]
    unfold magn
    rw [if_pos (by omega)]
    exact ⟨by omega, fun _ => hb, fun _ => by omega⟩
  · rw [if_neg hb]
    unfold magn
    rw [if_neg (by omega)]
    exact ⟨by omega, fun _ => by omega, fun h => absurd h hb⟩
/-- What is encoded of digits. -/
theorem intB_of (h : UInt8) (ds : List UInt8) (hk : kOf h = ds.length) (hl : ds.length ≤ 8) (hz : ds.head? ≠ some 0) :
    intB (if h.toNat < 128 then -1 - (valB ds : Int) else valB ds) = h :: ds.map (fun d => flipB (if h.toNat < 128 then -1 - (valB ds : Int) else valB ds) d) := by
  obtain ⟨h1, h2⟩ := magn_sgn (valB ds) (h.toNat < 128)
  rw [intB_eq, h1, digs_of ds hl hz, List.reverse_reverse, List.length_reverse, ← hk, kOf_hd h _ (by omega) h2]
theorem gI_ok {b : List UInt8} {n : Int} {u : Nat} (hg : gI b = (n, u, 0)) : u ≤ b.length ∧ b.take u = intB n ∧ inR n := by
  cases b with
  | nil => simp [gI] at hg
  | cons h t =>
    by_cases h1 : 8 < kOf h
    · rw [gI_form h1] at hg
      simp at hg
    · by_cases h2 : t.length < kOf h
      · rw [gI_more h1 h2] at hg
        simp at hg
      · by_cases h3 : ((t.take (kOf h)).map (flD h)).head? = some 0 ∨ 9223372036854775808 ≤ valB ((t.take (kOf h)).map (flD h))
        · rw [gI_bad h1 h2 h3] at hg
          simp at hg
        · rw [gI_good h1 h2 h3] at hg
          simp only [Prod.mk.injEq, and_true] at hg
          obtain ⟨rfl, rfl⟩ := hg
          have hdl : ((t.take (kOf h)).map (flD h)).length = kOf h := by simp; omega
          obtain ⟨ds, hds⟩ : ∃ ds, ds = (t.take (kOf h)).map (flD h) := ⟨_, rfl⟩
          rw [← hds] at h3 hdl ⊢
          obtain ⟨m1, m2⟩ := magn_sgn (valB ds) (h.toNat < 128)
          refine ⟨by simp; omega, ?_, ?_⟩
          · rw [intB_of h ds hdl.symm (by omega) (fun e => h3 (.inl e)), List.take_succ_cons, hds, List.map_map]
            rw [← hds]
            congr 1
            conv => lhs; rw [← List.map_id (t.take (kOf h))]
            exact List.map_congr_left fun d _ => (flip_flD _ h d m2).symm
          · constructor <;> split <;> omega
theorem gI_err {b : List UInt8} {n : Int} {u : Nat} {e : Int} (hg : gI b = (n, u, e)) : e = 0 ∨ (n = 0 ∧ u = 0 ∧ (e = 2 ∨ e = 3)) := by
  cases b with
  | nil =>
    simp [gI] at hg
    right
    omega
  | cons h t =>
    rw [gI] at hg
    split at hg
    · simp at hg
      right
      omega
    · split at hg
      · simp at hg
        right
        omega
      · split at hg
        · simp at hg
          right
          omega
        · simp only [Prod.mk.injEq] at hg
          exact .inl hg.2.2.symm
theorem gI_le (b : List UInt8) : (gI b).2.1 ≤ b.length := by
  obtain ⟨⟨n, u, e⟩, hg⟩ : ∃ x, x = gI b := ⟨_, rfl⟩
  rw [← hg]
  rcases gI_err hg.symm with h | h
  · subst h
    exact (gI_ok hg.symm).1
  · simp [h.2.1]
end Go.PM

namespace Go.PM
open Go.Proofs
attribute [local irreducible] W PCalls pcall pcallI WL
def bytesB (s : List UInt8) : List UInt8 := intB s.length ++ s
/-- The encoding of a list, given that of an element. -/
def encL {α : Type} (enc : α → List UInt8) (l : List α) : List UInt8 := intB l.length ++ l.flatMap enc
abbrev RowB (x : List UInt8) (res : PV) (H : Heap) : Prop := ∃ N, res = .row N 1 x.length ∧ H = [(N, ⟨5, true, 1, x.map pbyte⟩)]
theorem RowB.frz {G : Globs} {f : FuncId} {args : List PV} {x : List UInt8} (h : PCalls Tryd.prog G f args [] (RowB x)) : PCalls Tryd.prog G f args [] (fun res H => res = .list 1 (x.map pbyte) ∧ H = []) :=
  h.frz_row (xs := x.map pbyte) fun res H h => by
    obtain ⟨N, h1, h2⟩ := h
    exact ⟨N, 5, by rw [List.length_map]; exact h1, h2⟩
theorem flat_pb (l : List UInt8) : flat (l.map pbyte) = l.map pbyte := by
  induction l with
  | nil => rfl
  | cons x l ih =>
    simp only [flat, List.map_cons, List.flatMap_cons] at ih ⊢
    rw [ih]
    rfl
def preE {α : Type} (enc : α → List UInt8) (l : List α) (i : Nat) : List UInt8 := intB l.length ++ (l.take i).flatMap enc
theorem preE_zero {α : Type} (enc : α → List UInt8) (l : List α) : preE enc l 0 = intB l.length := by simp [preE]
theorem preE_succ {α : Type} (enc : α → List UInt8) (l : List α) (i : Nat) (h : i < l.length) : preE enc l (i + 1) = preE enc l i ++ enc l[i] := by
  rw [preE, List.take_add_one, List.getElem?_eq_getElem h, Option.toList_some, List.flatMap_append, ← List.append_assoc, List.flatMap_singleton]
  rfl
theorem preE_all {α : Type} (enc : α → List UInt8) (l : List α) (i : Nat) (h : l.length ≤ i) : preE enc l i = encL enc l := by
  rw [preE, List.take_of_length_le h]
  rfl
theorem preE_le {α : Type} (enc : α → List UInt8) (l : List α) (i : Nat) : (preE enc l i).length ≤ (encL enc l).length := by
  have h : encL enc l = preE enc l i ++ (l.drop i).flatMap enc := by
    rw [encL, preE, List.append_assoc, ← List.flatMap_append, List.take_append_drop]
  rw [h, List.length_append]
  omega
set_option maxRecDepth 100000 in
set_option maxHeartbeats 8000000 in
theorem wbytes_r (G : Globs) (s : List UInt8) (hs : s.length ≤ 4294967296) : PCalls Tryd.prog G 26 [pstr s] [] (RowB (bytesB s)) := by
  have h9 := intB_len9 (n := s.length) ⟨by omega, by omega⟩
  (refine PCalls_f Tryd.func26 rfl Tryd.ntmps26 Tryd.results26 (by simp) fun fin hfin => ?_; have hnm : True := trivial; simp only [ev, simprocAttr])
  repeat' (first
    | (with_reducible apply W_seq_k; intro nx hnx)
    | (with_reducible first | refine wr 5 ?_)
    | ((with_reducible first | (apply WL_op; intro nx hnx) | refine Ev_out ?_ | refine wc ?_ | (refine pf hnm fun nm hnm => ?_; try simp only [fmb] at hnm) | (refine pm hnm fun nm hnm => ?_; try simp only [fmb] at hnm)); try (simp (maxSteps := 2000000) (disch := omega) only [ev, ↓evp, PV.cells, PV.one, PV.mem?, Value.cells, simprocAttr, hnm, Tryd.tf3, Tryd.tf5, Tryd.tf9, Tryd.tf27, Tryd.call23]))
    | ((with_reducible first | apply W_block | apply W_scope | apply WL_nil | apply W_label | apply W_skip | apply W_exit | apply W_ret) <;> try simp only [kks, simprocAttr])
    | (with_reducible apply hnx; clear hnx nx)
    | (with_reducible refine And.intro (by omega) ?_)
    | (with_reducible refine And.intro ?_ ?_)
    | (clear hnx nx; with_reducible apply hnx; clear hnx nx)
    | (clear hnx nx; clear hnx nx; with_reducible apply hnx; clear hnx nx))
  refine pcall_k (wint_r G s.length (by omega) (by omega)) ?_
  rintro _ _ ⟨N, rfl, rfl⟩ -
  refine Ev_in ?_
  repeat' (first
    | (with_reducible apply W_seq_k; intro nx hnx)
    | (with_reducible first | refine wr 5 ?_)
    | ((with_reducible first | (apply WL_op; intro nx hnx) | refine Ev_out ?_ | refine wc ?_ | (refine pf hnm fun nm hnm => ?_; try simp only [fmb] at hnm) | (refine pm hnm fun nm hnm => ?_; try simp only [fmb] at hnm)); try (simp (maxSteps := 2000000) (disch := omega) only [ev, ↓evp, PV.cells, PV.one, PV.mem?, Value.cells, simprocAttr, hnm, Tryd.tf3, Tryd.tf5, Tryd.tf9, Tryd.tf27, Tryd.call23]))
    | ((with_reducible first | apply W_block | apply W_scope | apply WL_nil | apply W_label | apply W_skip | apply W_exit | apply W_ret) <;> try simp only [kks, simprocAttr])
    | (with_reducible apply hnx; clear hnx nx)
    | (with_reducible refine And.intro (by omega) ?_)
    | (with_reducible refine And.intro ?_ ?_)
    | (clear hnx nx; with_reducible apply hnx; clear hnx nx)
    | (clear hnx nx; clear hnx nx; with_reducible apply hnx; clear hnx nx))
  all_goals first
    | exact rfl
    | (rw [bytes_length]
       omega)
    | (refine hfin _ _ (Fin_ret1 rfl (Sub_refl (by simp [names])) ?_); simp only [cob, simprocAttr]
       refine ⟨nm, ?_, ?_⟩
       · simp [bytesB, bytes_length]
       · simp only [bytesB, bytes, flat_pb, List.map_append])
theorem wbytes_c (G : Globs) (s : List UInt8) (hs : s.length ≤ 4294967296) : PCalls Tryd.prog G 26 [pstr s] [] (fun res H => res = .list 1 ((bytesB s).map pbyte) ∧ H = []) := RowB.frz (wbytes_r G s hs)
set_option maxRecDepth 100000 in
set_option maxHeartbeats 8000000 in
theorem wints_r (G : Globs) (l : List (Int)) (hv : ∀ n ∈ l, inR n) (hl : (encL intB l).length ≤ 4294967296) (hl2 : l.length ≤ 4294967296) : PCalls Tryd.prog G 82 [.list 1 (l.map (pint .i64))] [] (RowB (encL intB l)) := by
  (refine PCalls_f Tryd.func82 rfl Tryd.ntmps82 Tryd.results82 (by simp) fun fin hfin => ?_; have hnm : True := trivial; simp only [ev, simprocAttr])
  repeat' (first
    | (with_reducible apply W_seq_k; intro nx hnx)
    | (with_reducible first | refine wr 3629 ?_)
    | ((with_reducible first | (apply WL_op; intro nx hnx) | refine Ev_out ?_ | refine wc ?_ | (refine pf hnm fun nm hnm => ?_; try simp only [fmb] at hnm) | (refine pm hnm fun nm hnm => ?_; try simp only [fmb] at hnm)); try (simp (maxSteps := 2000000) (disch := omega) only [ev, ↓evp, PV.cells, PV.one, PV.mem?, Value.cells, simprocAttr, hnm, Tryd.tf0, Tryd.tf3, Tryd.tf5, Tryd.tf22, Tryd.tf27, Tryd.call23]))
    | ((with_reducible first | apply W_block | apply W_scope | apply WL_nil | apply W_label | apply W_skip | apply W_exit | apply W_ret) <;> try simp only [kks, simprocAttr])
    | (with_reducible apply pg <;> (intro hc; (try simp only [hcb, simprocAttr, ne_eq, forall_const] at hc); first | (exfalso; omega) | exact absurd trivial hc | skip))
    | (with_reducible apply hnx; clear hnx nx)
    | (with_reducible refine And.intro (by omega) ?_)
    | (with_reducible refine And.intro ?_ ?_)
    | (clear hnx nx; with_reducible apply hnx; clear hnx nx)
    | (clear hnx nx; clear hnx nx; with_reducible apply hnx; clear hnx nx))
  refine pcall_k (wint_r G l.length (by omega) (by omega)) ?_
  rintro _ _ ⟨N0, rfl, rfl⟩ -
  refine Ev_in ?_
  repeat' (first
    | (with_reducible apply W_seq_k; intro nx hnx)
    | (with_reducible first | refine wr 3629 ?_)
    | ((with_reducible first | (apply WL_op; intro nx hnx) | refine Ev_out ?_ | refine wc ?_ | (refine pf hnm fun nm hnm => ?_; try simp only [fmb] at hnm) | (refine pm hnm fun nm hnm => ?_; try simp only [fmb] at hnm)); try (simp (maxSteps := 2000000) (disch := omega) only [ev, ↓evp, PV.cells, PV.one, PV.mem?, Value.cells, simprocAttr, hnm, Tryd.tf0, Tryd.tf3, Tryd.tf5, Tryd.tf22, Tryd.tf27, Tryd.call23]))
    | ((with_reducible first | apply W_block | apply W_scope | apply WL_nil | apply W_label | apply W_skip | apply W_exit | apply W_ret) <;> try simp only [kks, simprocAttr])
    | (with_reducible apply pg <;> (intro hc; (try simp only [hcb, simprocAttr, ne_eq, forall_const] at hc); first | (exfalso; omega) | exact absurd trivial hc | skip))
    | (with_reducible apply hnx; clear hnx nx)
    | (with_reducible refine And.intro (by omega) ?_)
    | (with_reducible refine And.intro ?_ ?_)
    | (clear hnx nx; with_reducible apply hnx; clear hnx nx)
    | (clear hnx nx; clear hnx nx; with_reducible apply hnx; clear hnx nx))
  refine W_loop_k (fun z τ => ∃ (i : Nat) (N : Int), i ≤ l.length ∧ z = l.length - i ∧ τ = ⟨fr 21 [(3, .row N 1 (preE intB l i).length), (9, .list 1 (l.map (pint .i64))), (10, pint .i64 l.length), (11, pint .i64 i)], [(N, ⟨5, true, 1, (preE intB l i).map pbyte⟩)]⟩) l.length ⟨fr 21 [(3, .row N0 1 (preE intB l 0).length), (9, .list 1 (l.map (pint .i64))), (10, pint .i64 l.length), (11, pint .i64 (0 : Nat))], [(N0, ⟨5, true, 1, (preE intB l 0).map pbyte⟩)]⟩ (by
    rw [preE_zero]
    exact Wk_fr (by simp only [wkb, simprocAttr]) ⟨by simp, by simp [names]⟩) ⟨0, N0, by omega, by omega, rfl⟩ ?_
  rintro z τ ⟨i, N, hi', rfl, rfl⟩ lp hlp
  have hle := preE_le intB l (i + 1)
  by_cases hi : i < l.length
  · rw [preE_succ intB l i hi, List.length_append] at hle
    repeat' (first
    | (with_reducible apply W_seq_k; intro nx hnx)
    | (with_reducible first | refine wr 3629 ?_)
    | ((with_reducible first | (apply WL_op; intro nx hnx) | refine Ev_out ?_ | refine wc ?_ | (refine pf hnm fun nm hnm => ?_; try simp only [fmb] at hnm) | (refine pm hnm fun nm hnm => ?_; try simp only [fmb] at hnm)); try (simp (maxSteps := 2000000) (disch := omega) only [ev, ↓evp, PV.cells, PV.one, PV.mem?, Value.cells, simprocAttr, hnm, Tryd.tf0, Tryd.tf3, Tryd.tf5, Tryd.tf22, Tryd.tf27, Tryd.call23]))
    | ((with_reducible first | apply W_block | apply W_scope | apply WL_nil | apply W_label | apply W_skip | apply W_exit | apply W_ret) <;> try simp only [kks, simprocAttr])
    | (with_reducible apply pg <;> (intro hc; (try simp only [hcb, simprocAttr, ne_eq, forall_const] at hc); first | (exfalso; omega) | exact absurd trivial hc | skip))
    | (with_reducible apply hnx; clear hnx nx)
    | (with_reducible refine And.intro (by omega) ?_)
    | (with_reducible refine And.intro ?_ ?_)
    | (clear hnx nx; with_reducible apply hnx; clear hnx nx)
    | (clear hnx nx; clear hnx nx; with_reducible apply hnx; clear hnx nx))
    all_goals first
      | (exfalso
         omega)
      | skip
    refine pcall_k (wint_c G l[i] (hv _ (List.getElem_mem hi)).1 (hv _ (List.getElem_mem hi)).2) ?_
    rintro _ _ ⟨rfl, rfl⟩ -
    refine Ev_in ?_
    repeat' (first
    | (with_reducible apply W_seq_k; intro nx hnx)
    | (with_reducible first | refine wr 3629 ?_)
    | ((with_reducible first | (apply WL_op; intro nx hnx) | refine Ev_out ?_ | refine wc ?_ | (refine pf hnm fun nm hnm => ?_; try simp only [fmb] at hnm) | (refine pm hnm fun nm hnm => ?_; try simp only [fmb] at hnm)); try (simp (maxSteps := 2000000) (disch := omega) only [ev, ↓evp, PV.cells, PV.one, PV.mem?, Value.cells, simprocAttr, hnm, Tryd.tf0, Tryd.tf3, Tryd.tf5, Tryd.tf22, Tryd.tf27, Tryd.call23, flat_pb]))
    | ((with_reducible first | apply W_block | apply W_scope | apply WL_nil | apply W_label | apply W_skip | apply W_exit | apply W_ret) <;> try simp only [kks, simprocAttr])
    | (with_reducible apply pg <;> (intro hc; (try simp only [hcb, simprocAttr, ne_eq, forall_const] at hc); first | (exfalso; omega) | exact absurd trivial hc | skip))
    | (with_reducible apply hnx; clear hnx nx)
    | (with_reducible refine And.intro (by omega) ?_)
    | (with_reducible refine And.intro ?_ ?_)
    | (clear hnx nx; with_reducible apply hnx; clear hnx nx)
    | (clear hnx nx; clear hnx nx; with_reducible apply hnx; clear hnx nx))
    all_goals first
      | (refine hlp _ (l.length - (i + 1)) _ (by omega) ?_ ⟨i + 1, nm, by omega, rfl, rfl⟩
         rw [preE_succ intB l i hi, List.length_append, List.map_append]
         exact Wk_fr (by simp only [wkb, simprocAttr]) ⟨by simp, by simp [names]⟩)
  · repeat' (first
    | (with_reducible apply W_seq_k; intro nx hnx)
    | (with_reducible first | refine wr 3629 ?_)
    | ((with_reducible first | (apply WL_op; intro nx hnx) | refine Ev_out ?_ | refine wc ?_ | (refine pf hnm fun nm hnm => ?_; try simp only [fmb] at hnm) | (refine pm hnm fun nm hnm => ?_; try simp only [fmb] at hnm)); try (simp (maxSteps := 2000000) (disch := omega) only [ev, ↓evp, PV.cells, PV.one, PV.mem?, Value.cells, simprocAttr, hnm, Tryd.tf0, Tryd.tf3, Tryd.tf5, Tryd.tf22, Tryd.tf27, Tryd.call23]))
    | ((with_reducible first | apply W_block | apply W_scope | apply WL_nil | apply W_label | apply W_skip | apply W_exit | apply W_ret) <;> try simp only [kks, simprocAttr])
    | (with_reducible apply pg <;> (intro hc; (try simp only [hcb, simprocAttr, ne_eq, forall_const] at hc); first | (exfalso; omega) | exact absurd trivial hc | skip))
    | (with_reducible apply hnx; clear hnx nx)
    | (with_reducible refine And.intro (by omega) ?_)
    | (with_reducible refine And.intro ?_ ?_)
    | (clear hnx nx; with_reducible apply hnx; clear hnx nx)
    | (clear hnx nx; clear hnx nx; with_reducible apply hnx; clear hnx nx))
    all_goals first
      | (exfalso
         omega)
      | (refine hfin _ _ (Fin_ret1 rfl (Sub_refl (by simp [names])) ?_); simp only [cob, simprocAttr]
         rw [preE_all intB l i (by omega)]
         exact ⟨N, rfl, rfl⟩)
theorem wints_c (G : Globs) (l : List (Int)) (hv : ∀ n ∈ l, inR n) (hl : (encL intB l).length ≤ 4294967296) (hl2 : l.length ≤ 4294967296) : PCalls Tryd.prog G 82 [.list 1 (l.map (pint .i64))] [] (fun res H => res = .list 1 ((encL intB l).map pbyte) ∧ H = []) := RowB.frz (wints_r G l hv hl hl2)
end Go.PM

namespace Go.PM
open Go.Proofs
attribute [local irreducible] W PCalls pcall pcallI WL
set_option maxRecDepth 100000 in
set_option maxHeartbeats 8000000 in
theorem wstrs_r (G : Globs) (l : List (List UInt8)) (hv : ∀ s ∈ l, s.length ≤ 4294967296) (hl : (encL bytesB l).length ≤ 4294967296) (hl2 : l.length ≤ 4294967296) : PCalls Tryd.prog G 15 [.list 1 (l.map pstr)] [] (RowB (encL bytesB l)) := by
  (refine PCalls_f Tryd.func15 rfl Tryd.ntmps15 Tryd.results15 (by simp) fun fin hfin => ?_; have hnm : True := trivial; simp only [ev, simprocAttr])
  repeat' (first
    | (with_reducible apply W_seq_k; intro nx hnx)
    | (with_reducible first | refine wr 3629 ?_)
    | ((with_reducible first | (apply WL_op; intro nx hnx) | refine Ev_out ?_ | refine wc ?_ | (refine pf hnm fun nm hnm => ?_; try simp only [fmb] at hnm) | (refine pm hnm fun nm hnm => ?_; try simp only [fmb] at hnm)); try (simp (maxSteps := 2000000) (disch := omega) only [ev, ↓evp, PV.cells, PV.one, PV.mem?, Value.cells, simprocAttr, hnm, Tryd.tf0, Tryd.tf3, Tryd.tf5, Tryd.tf9, Tryd.tf24, Tryd.tf27, Tryd.call23, Tryd.call26]))
    | ((with_reducible first | apply W_block | apply W_scope | apply WL_nil | apply W_label | apply W_skip | apply W_exit | apply W_ret) <;> try simp only [kks, simprocAttr])
    | (with_reducible apply pg <;> (intro hc; (try simp only [hcb, simprocAttr, ne_eq, forall_const] at hc); first | (exfalso; omega) | exact absurd trivial hc | skip))
    | (with_reducible apply hnx; clear hnx nx)
    | (with_reducible refine And.intro (by omega) ?_)
    | (with_reducible refine And.intro ?_ ?_)
    | (clear hnx nx; with_reducible apply hnx; clear hnx nx)
    | (clear hnx nx; clear hnx nx; with_reducible apply hnx; clear hnx nx))
  refine pcall_k (wint_r G l.length (by omega) (by omega)) ?_
  rintro _ _ ⟨N0, rfl, rfl⟩ -
  refine Ev_in ?_
  repeat' (first
    | (with_reducible apply W_seq_k; intro nx hnx)
    | (with_reducible first | refine wr 3629 ?_)
    | ((with_reducible first | (apply WL_op; intro nx hnx) | refine Ev_out ?_ | refine wc ?_ | (refine pf hnm fun nm hnm => ?_; try simp only [fmb] at hnm) | (refine pm hnm fun nm hnm => ?_; try simp only [fmb] at hnm)); try (simp (maxSteps := 2000000) (disch := omega) only [ev, ↓evp, PV.cells, PV.one, PV.mem?, Value.cells, simprocAttr, hnm, Tryd.tf0, Tryd.tf3, Tryd.tf5, Tryd.tf9, Tryd.tf24, Tryd.tf27, Tryd.call23, Tryd.call26]))
    | ((with_reducible first | apply W_block | apply W_scope | apply WL_nil | apply W_label | apply W_skip | apply W_exit | apply W_ret) <;> try simp only [kks, simprocAttr])
    | (with_reducible apply pg <;> (intro hc; (try simp only [hcb, simprocAttr, ne_eq, forall_const] at hc); first | (exfalso; omega) | exact absurd trivial hc | skip))
    | (with_reducible apply hnx; clear hnx nx)
    | (with_reducible refine And.intro (by omega) ?_)
    | (with_reducible refine And.intro ?_ ?_)
    | (clear hnx nx; with_reducible apply hnx; clear hnx nx)
    | (clear hnx nx; clear hnx nx; with_reducible apply hnx; clear hnx nx))
  refine W_loop_k (fun z τ => ∃ (i : Nat) (N : Int), i ≤ l.length ∧ z = l.length - i ∧ τ = ⟨fr 21 [(3, .row N 1 (preE bytesB l i).length), (9, .list 1 (l.map pstr)), (10, pint .i64 l.length), (11, pint .i64 i)], [(N, ⟨5, true, 1, (preE bytesB l i).map pbyte⟩)]⟩) l.length ⟨fr 21 [(3, .row N0 1 (preE bytesB l 0).length), (9, .list 1 (l.map pstr)), (10, pint .i64 l.length), (11, pint .i64 (0 : Nat))], [(N0, ⟨5, true, 1, (preE bytesB l 0).map pbyte⟩)]⟩ (by
    rw [preE_zero]
    exact Wk_fr (by simp only [wkb, simprocAttr]) ⟨by simp, by simp [names]⟩) ⟨0, N0, by omega, by omega, rfl⟩ ?_
  rintro z τ ⟨i, N, hi', rfl, rfl⟩ lp hlp
  have hle := preE_le bytesB l (i + 1)
  by_cases hi : i < l.length
  · rw [preE_succ bytesB l i hi, List.length_append] at hle
    repeat' (first
    | (with_reducible apply W_seq_k; intro nx hnx)
    | (with_reducible first | refine wr 3629 ?_)
    | ((with_reducible first | (apply WL_op; intro nx hnx) | refine Ev_out ?_ | refine wc ?_ | (refine pf hnm fun nm hnm => ?_; try simp only [fmb] at hnm) | (refine pm hnm fun nm hnm => ?_; try simp only [fmb] at hnm)); try (simp (maxSteps := 2000000) (disch := omega) only [ev, ↓evp, PV.cells, PV.one, PV.mem?, Value.cells, simprocAttr, hnm, Tryd.tf0, Tryd.tf3, Tryd.tf5, Tryd.tf9, Tryd.tf24, Tryd.tf27, Tryd.call23, Tryd.call26]))
    | ((with_reducible first | apply W_block | apply W_scope | apply WL_nil | apply W_label | apply W_skip | apply W_exit | apply W_ret) <;> try simp only [kks, simprocAttr])
    | (with_reducible apply pg <;> (intro hc; (try simp only [hcb, simprocAttr, ne_eq, forall_const] at hc); first | (exfalso; omega) | exact absurd trivial hc | skip))
    | (with_reducible apply hnx; clear hnx nx)
    | (with_reducible refine And.intro (by omega) ?_)
    | (with_reducible refine And.intro ?_ ?_)
    | (clear hnx nx; with_reducible apply hnx; clear hnx nx)
    | (clear hnx nx; clear hnx nx; with_reducible apply hnx; clear hnx nx))
    all_goals first
      | (exfalso
         omega)
      | skip
    refine pcall_k (wbytes_c G l[i] (hv _ (List.getElem_mem hi))) ?_
    rintro _ _ ⟨rfl, rfl⟩ -
    refine Ev_in ?_
    repeat' (first
    | (with_reducible apply W_seq_k; intro nx hnx)
    | (with_reducible first | refine wr 3629 ?_)
    | ((with_reducible first | (apply WL_op; intro nx hnx) | refine Ev_out ?_ | refine wc ?_ | (refine pf hnm fun nm hnm => ?_; try simp only [fmb] at hnm) | (refine pm hnm fun nm hnm => ?_; try simp only [fmb] at hnm)); try (simp (maxSteps := 2000000) (disch := omega) only [ev, ↓evp, PV.cells, PV.one, PV.mem?, Value.cells, simprocAttr, hnm, Tryd.tf0, Tryd.tf3, Tryd.tf5, Tryd.tf9, Tryd.tf24, Tryd.tf27, Tryd.call23, Tryd.call26, flat_pb]))
    | ((with_reducible first | apply W_block | apply W_scope | apply WL_nil | apply W_label | apply W_skip | apply W_exit | apply W_ret) <;> try simp only [kks, simprocAttr])
    | (with_reducible apply pg <;> (intro hc; (try simp only [hcb, simprocAttr, ne_eq, forall_const] at hc); first | (exfalso; omega) | exact absurd trivial hc | skip))
    | (with_reducible apply hnx; clear hnx nx)
    | (with_reducible refine And.intro (by omega) ?_)
    | (with_reducible refine And.intro ?_ ?_)
    | (clear hnx nx; with_reducible apply hnx; clear hnx nx)
    | (clear hnx nx; clear hnx nx; with_reducible apply hnx; clear hnx nx))
    all_goals first
      | (refine hlp _ (l.length - (i + 1)) _ (by omega) ?_ ⟨i + 1, nm, by omega, rfl, rfl⟩
         rw [preE_succ bytesB l i hi, List.length_append, List.map_append]
         exact Wk_fr (by simp only [wkb, simprocAttr]) ⟨by simp, by simp [names]⟩)
  · repeat' (first
    | (with_reducible apply W_seq_k; intro nx hnx)
    | (with_reducible first | refine wr 3629 ?_)
    | ((with_reducible first | (apply WL_op; intro nx hnx) | refine Ev_out ?_ | refine wc ?_ | (refine pf hnm fun nm hnm => ?_; try simp only [fmb] at hnm) | (refine pm hnm fun nm hnm => ?_; try simp only [fmb] at hnm)); try (simp (maxSteps := 2000000) (disch := omega) only [ev, ↓evp, PV.cells, PV.one, PV.mem?, Value.cells, simprocAttr, hnm, Tryd.tf0, Tryd.tf3, Tryd.tf5, Tryd.tf9, Tryd.tf24, Tryd.tf27, Tryd.call23, Tryd.call26]))
    | ((with_reducible first | apply W_block | apply W_scope | apply WL_nil | apply W_label | apply W_skip | apply W_exit | apply W_ret) <;> try simp only [kks, simprocAttr])
    | (with_reducible apply pg <;> (intro hc; (try simp only [hcb, simprocAttr, ne_eq, forall_const] at hc); first | (exfalso; omega) | exact absurd trivial hc | skip))
    | (with_reducible apply hnx; clear hnx nx)
    | (with_reducible refine And.intro (by omega) ?_)
    | (with_reducible refine And.intro ?_ ?_)
    | (clear hnx nx; with_reducible apply hnx; clear hnx nx)
    | (clear hnx nx; clear hnx nx; with_reducible apply hnx; clear hnx nx))
    all_goals first
      | (exfalso
         omega)
      | (refine hfin _ _ (Fin_ret1 rfl (Sub_refl (by simp [names])) ?_); simp only [cob, simprocAttr]
         rw [preE_all bytesB l i (by omega)]
         exact ⟨N, rfl, rfl⟩)
theorem wstrs_c (G : Globs) (l : List (List UInt8)) (hv : ∀ s ∈ l, s.length ≤ 4294967296) (hl : (encL bytesB l).length ≤ 4294967296) (hl2 : l.length ≤ 4294967296) : PCalls Tryd.prog G 15 [.list 1 (l.map pstr)] [] (fun res H => res = .list 1 ((encL bytesB l).map pbyte) ∧ H = []) := RowB.frz (wstrs_r G l hv hl hl2)
end Go.PM

namespace Go.PM
open Go.Proofs
attribute [local irreducible] W PCalls pcall pcallI WL
/-- A digest. -/
@[reducible] def pdh (d : List UInt8) : PV := .agg (d.map pbyte)
theorem all_one_pbyte (d : List UInt8) : (d.map pbyte).all PV.one = true := by
  rw [List.all_eq_true]
  intro p hp
  obtain ⟨b, _, rfl⟩ := List.mem_map.1 hp
  rfl
set_option maxRecDepth 100000 in
set_option maxHeartbeats 8000000 in
theorem wdigs_r (G : Globs) (l : List (List UInt8)) (hv : ∀ d ∈ l, d.length = 16) (hl : (encL id l).length ≤ 4294967296) (hl2 : l.length ≤ 4294967296) : PCalls Tryd.prog G 21 [.list 16 (l.map pdh)] [] (RowB (encL id l)) := by
  (refine PCalls_f Tryd.func21 rfl Tryd.ntmps21 Tryd.results21 (by simp) fun fin hfin => ?_; have hnm : True := trivial; simp only [ev, simprocAttr])
  repeat' (first
    | (with_reducible apply W_seq_k; intro nx hnx)
    | (with_reducible first | refine wr 3629 ?_)
    | ((with_reducible first | (apply WL_op; intro nx hnx) | refine Ev_out ?_ | refine wc ?_ | (refine pf hnm fun nm hnm => ?_; try simp only [fmb] at hnm) | (refine pm hnm fun nm hnm => ?_; try simp only [fmb] at hnm)); try (simp (maxSteps := 2000000) (disch := omega) only [ev, ↓evp, PV.cells, PV.one, PV.mem?, Value.cells, simprocAttr, hnm, Tryd.tf0, Tryd.tf3, Tryd.tf5, Tryd.tf27, Tryd.tf37, Tryd.tf58, Tryd.call23]))
    | ((with_reducible first | apply W_block | apply W_scope | apply WL_nil | apply W_label | apply W_skip | apply W_exit | apply W_ret) <;> try simp only [kks, simprocAttr])
    | (with_reducible apply pg <;> (intro hc; (try simp only [hcb, simprocAttr, ne_eq, forall_const] at hc); first | (exfalso; omega) | exact absurd trivial hc | skip))
    | (with_reducible apply hnx; clear hnx nx)
    | (with_reducible refine And.intro (by omega) ?_)
    | (with_reducible refine And.intro ?_ ?_)
    | (clear hnx nx; with_reducible apply hnx; clear hnx nx)
    | (clear hnx nx; clear hnx nx; with_reducible apply hnx; clear hnx nx))
  refine pcall_k (wint_r G l.length (by omega) (by omega)) ?_
  rintro _ _ ⟨N0, rfl, rfl⟩ -
  refine Ev_in ?_
  repeat' (first
    | (with_reducible apply W_seq_k; intro nx hnx)
    | (with_reducible first | refine wr 3629 ?_)
    | ((with_reducible first | (apply WL_op; intro nx hnx) | refine Ev_out ?_ | refine wc ?_ | (refine pf hnm fun nm hnm => ?_; try simp only [fmb] at hnm) | (refine pm hnm fun nm hnm => ?_; try simp only [fmb] at hnm)); try (simp (maxSteps := 2000000) (disch := omega) only [ev, ↓evp, PV.cells, PV.one, PV.mem?, Value.cells, simprocAttr, hnm, Tryd.tf0, Tryd.tf3, Tryd.tf5, Tryd.tf27, Tryd.tf37, Tryd.tf58, Tryd.call23]))
    | ((with_reducible first | apply W_block | apply W_scope | apply WL_nil | apply W_label | apply W_skip | apply W_exit | apply W_ret) <;> try simp only [kks, simprocAttr])
    | (with_reducible apply pg <;> (intro hc; (try simp only [hcb, simprocAttr, ne_eq, forall_const] at hc); first | (exfalso; omega) | exact absurd trivial hc | skip))
    | (with_reducible apply hnx; clear hnx nx)
    | (with_reducible refine And.intro (by omega) ?_)
    | (with_reducible refine And.intro ?_ ?_)
    | (clear hnx nx; with_reducible apply hnx; clear hnx nx)
    | (clear hnx nx; clear hnx nx; with_reducible apply hnx; clear hnx nx))
  refine W_loop_k (fun z τ => ∃ (i : Nat) (N : Int), i ≤ l.length ∧ z = l.length - i ∧ τ = ⟨fr 20 [(3, .row N 1 (preE id l i).length), (9, .list 16 (l.map pdh)), (10, pint .i64 l.length), (11, pint .i64 i)], [(N, ⟨5, true, 1, (preE id l i).map pbyte⟩)]⟩) l.length ⟨fr 20 [(3, .row N0 1 (preE id l 0).length), (9, .list 16 (l.map pdh)), (10, pint .i64 l.length), (11, pint .i64 (0 : Nat))], [(N0, ⟨5, true, 1, (preE id l 0).map pbyte⟩)]⟩ (by
    rw [preE_zero]
    exact Wk_fr (by simp only [wkb, simprocAttr]) ⟨by simp, by simp [names]⟩) ⟨0, N0, by omega, by omega, rfl⟩ ?_
  rintro z τ ⟨i, N, hi', rfl, rfl⟩ lp hlp
  have hle := preE_le id l (i + 1)
  by_cases hi : i < l.length
  · rw [preE_succ id l i hi, List.length_append] at hle
    obtain ⟨d, hd⟩ : ∃ d, l[i] = d := ⟨_, rfl⟩
    have hd16 : d.length = 16 := hd ▸ hv _ (List.getElem_mem hi)
    have ht16 : List.take 16 (d.map pbyte) = d.map pbyte := List.take_of_length_le (by simp [hd16])
    have h1s := all_one_pbyte d
    have hi2 : id l[i] = d := hd
    rw [hi2, hd16] at hle
    repeat' (first
    | (with_reducible apply W_seq_k; intro nx hnx)
    | (with_reducible first | refine wr 3629 ?_)
    | ((with_reducible first | (apply WL_op; intro nx hnx) | refine Ev_out ?_ | refine wc ?_ | (refine pf hnm fun nm hnm => ?_; try simp only [fmb] at hnm) | (refine pm hnm fun nm hnm => ?_; try simp only [fmb] at hnm)); try (simp (maxSteps := 2000000) (disch := omega) only [ev, ↓evp, PV.cells, PV.one, PV.mem?, Value.cells, simprocAttr, hnm, Tryd.tf0, Tryd.tf3, Tryd.tf5, Tryd.tf27, Tryd.tf37, Tryd.tf58, Tryd.call23, hd, hd16, ht16, h1s]))
    | ((with_reducible first | apply W_block | apply W_scope | apply WL_nil | apply W_label | apply W_skip | apply W_exit | apply W_ret) <;> try simp only [kks, simprocAttr])
    | (with_reducible apply pg <;> (intro hc; (try simp only [hcb, simprocAttr, ne_eq, forall_const] at hc); first | (exfalso; omega) | exact absurd trivial hc | skip))
    | (with_reducible apply hnx; clear hnx nx)
    | (with_reducible refine And.intro (by omega) ?_)
    | (with_reducible refine And.intro ?_ ?_)
    | (clear hnx nx; with_reducible apply hnx; clear hnx nx)
    | (clear hnx nx; clear hnx nx; with_reducible apply hnx; clear hnx nx))
    refine hlp _ (l.length - (i + 1)) _ (by omega) ?_ ⟨i + 1, nm, by omega, rfl, rfl⟩
    rw [preE_succ id l i hi, List.length_append, List.map_append, hi2, hd16]
    exact Wk_fr (by simp only [wkb, simprocAttr]) ⟨by simp, by simp [names]⟩
  · repeat' (first
    | (with_reducible apply W_seq_k; intro nx hnx)
    | (with_reducible first | refine wr 3629 ?_)
    | ((with_reducible first | (apply WL_op; intro nx hnx) | refine Ev_out ?_ | refine wc ?_ | (refine pf hnm fun nm hnm => ?_; try simp only [fmb] at hnm) | (refine pm hnm fun nm hnm => ?_; try simp only [fmb] at hnm)); try (simp (maxSteps := 2000000) (disch := omega) only [ev, ↓evp, PV.cells, PV.one, PV.mem?, Value.cells, simprocAttr, hnm, Tryd.tf0, Tryd.tf3, Tryd.tf5, Tryd.tf27, Tryd.tf37, Tryd.tf58, Tryd.call23]))
    | ((with_reducible first | apply W_block | apply W_scope | apply WL_nil | apply W_label | apply W_skip | apply W_exit | apply W_ret) <;> try simp only [kks, simprocAttr])
    | (with_reducible apply pg <;> (intro hc; (try simp only [hcb, simprocAttr, ne_eq, forall_const] at hc); first | (exfalso; omega) | exact absurd trivial hc | skip))
    | (with_reducible apply hnx; clear hnx nx)
    | (with_reducible refine And.intro (by omega) ?_)
    | (with_reducible refine And.intro ?_ ?_)
    | (clear hnx nx; with_reducible apply hnx; clear hnx nx)
    | (clear hnx nx; clear hnx nx; with_reducible apply hnx; clear hnx nx))
    all_goals first
      | (exfalso
         omega)
      | (refine hfin _ _ (Fin_ret1 rfl (Sub_refl (by simp [names])) ?_); simp only [cob, simprocAttr]
         rw [preE_all id l i (by omega)]
         exact ⟨N, rfl, rfl⟩)
end Go.PM

namespace Go.PM
open Go.Proofs
attribute [local irreducible] W PCalls pcall pcallI WL
/-- The number of elements, the position, the error. -/
def gcT (size : Nat) (b : List UInt8) : Int × Nat × Int :=
  if (gI b).2.2 ≠ 0 then (0, 0, (gI b).2.2)
  else if (gI b).1 < 0 then (0, 0, 2)
  else if ((b.length - (gI b).2.1 : Nat) : Int) / size < (gI b).1 then (0, 0, 3)
  else gI b
/-- What comes back: with an error the others do not matter. -/
def CRes (x : Int × Nat × Int) (res : PV) : Prop := ∃ n u : Int, res = .tuple [pint .i64 n, pint .i64 u, pint .i64 x.2.2] ∧ (x.2.2 = 0 → n = x.1 ∧ u = x.2.1)
theorem gI_vals (b : List UInt8) (hb : (b.length : Int) ≤ 4611686018427387904) : inR (gI b).1 ∧ (gI b).2.1 ≤ b.length ∧ 0 ≤ (gI b).2.2 ∧ (gI b).2.2 ≤ 3 := by
  have h1 := gI_le b
  obtain ⟨⟨n, u, e⟩, hg⟩ : ∃ x, x = gI b := ⟨_, rfl⟩
  rw [← hg] at h1 ⊢
  rcases gI_err hg.symm with h | h
  · subst h
    exact ⟨(gI_ok hg.symm).2.2, h1, by simp, by simp⟩
  · obtain ⟨rfl, rfl, h⟩ := h
    refine ⟨⟨by simp, by simp⟩, h1, ?_, ?_⟩ <;> simp only <;> omega
set_option maxRecDepth 100000 in
set_option maxHeartbeats 8000000 in
theorem count_c (G : Globs) (b : List UInt8) (size : Nat) (hs : 1 ≤ size) (hs2 : size ≤ 16) (hb : (b.length : Int) ≤ 4611686018427387904) :
    PCalls Tryd.prog G 55 [.list 1 (b.map pbyte), pint .i64 size] [] (fun res H => CRes (gcT size b) res ∧ H = []) := by
  obtain ⟨hn, hu, he0, he3⟩ := gI_vals b hb
  (refine PCalls_f Tryd.func55 rfl Tryd.ntmps55 Tryd.results55 (by simp) fun fin hfin => ?_; have hnm : True := trivial; simp only [ev, simprocAttr])
  repeat' (first
    | (with_reducible apply W_seq_k; intro nx hnx)
    | (with_reducible first | refine wr 115 ?_)
    | ((with_reducible first | (apply WL_op; intro nx hnx) | refine Ev_out ?_ | refine wc ?_); try (simp (maxSteps := 2000000) (disch := omega) only [ev, ↓evp, PV.cells, PV.one, PV.mem?, Value.cells, simprocAttr, hnm, Tryd.tf0, Tryd.tf1, Tryd.tf2, Tryd.tf3, Tryd.tf4, Tryd.tf5, Tryd.tf27, Tryd.tf28, Tryd.tf106, Tryd.call56]))
    | ((with_reducible first | apply W_block | apply W_scope | apply WL_nil | apply W_label | apply W_skip | apply W_exit | apply W_ret) <;> try simp only [kks, simprocAttr])
    | (with_reducible apply pg <;> (intro hc; (try simp only [hcb, simprocAttr, ne_eq, forall_const] at hc); first | (exfalso; omega) | exact absurd trivial hc | skip))
    | (with_reducible apply hnx; clear hnx nx)
    | (with_reducible refine And.intro (by omega) ?_)
    | (with_reducible refine And.intro ?_ ?_)
    | (clear hnx nx; with_reducible apply hnx; clear hnx nx)
    | (clear hnx nx; clear hnx nx; with_reducible apply hnx; clear hnx nx))
  refine pcall_k (getInt_c G b hb) ?_
  rintro _ _ ⟨rfl, rfl⟩ -
  obtain ⟨⟨n, u, e⟩, hg⟩ : ∃ x, x = gI b := ⟨_, rfl⟩
  rw [← hg] at hn hu he0 he3
  simp only at hn hu he0 he3
  have hq : ((b.length : Int) - u).tdiv size = ((b.length - u : Nat) : Int) / size := by
    rw [Int.tdiv_eq_ediv_of_nonneg (by omega)]
    congr 1
    omega
  have hq2 : 0 ≤ ((b.length - u : Nat) : Int) / size := Int.ediv_nonneg (by omega) (by omega)
  have hq3 : ((b.length - u : Nat) : Int) / size ≤ ((b.length - u : Nat) : Int) := Int.ediv_le_self _ (by omega)
  simp only [t3]
  rw [← hg]
  refine Ev_in ?_
  repeat' (first
    | (with_reducible apply W_seq_k; intro nx hnx)
    | (with_reducible first | refine wr 115 ?_)
    | ((with_reducible first | (apply WL_op; intro nx hnx) | refine Ev_out ?_ | refine wc ?_); try (simp (maxSteps := 2000000) (disch := omega) only [ev, ↓evp, PV.cells, PV.one, PV.mem?, Value.cells, simprocAttr, hnm, Tryd.tf0, Tryd.tf1, Tryd.tf2, Tryd.tf3, Tryd.tf4, Tryd.tf5, Tryd.tf27, Tryd.tf28, Tryd.tf106, Tryd.call56, hq]))
    | ((with_reducible first | apply W_block | apply W_scope | apply WL_nil | apply W_label | apply W_skip | apply W_exit | apply W_ret) <;> try simp only [kks, simprocAttr])
    | (with_reducible apply pg <;> (intro hc; (try simp only [hcb, simprocAttr, ne_eq, forall_const] at hc); first | (exfalso; omega) | exact absurd trivial hc | skip))
    | (with_reducible apply hnx; clear hnx nx)
    | (with_reducible refine And.intro (by omega) ?_)
    | (with_reducible refine And.intro ?_ ?_)
    | (clear hnx nx; with_reducible apply hnx; clear hnx nx)
    | (clear hnx nx; clear hnx nx; with_reducible apply hnx; clear hnx nx))
  all_goals
    refine hfin _ _ (Fin_ret3 rfl rfl rfl (Sub_nil _) ?_); simp only [cob, simprocAttr]
    refine ⟨⟨n, u, ?_⟩, by trivial⟩
    unfold gcT
    rw [← hg]
    simp only
  · rw [if_pos hc]
    exact ⟨rfl, fun h => absurd h hc⟩
  · rw [if_neg (by omega), if_pos hc]
    exact ⟨rfl, fun h => absurd h (by decide)⟩
  · rw [if_neg (by omega), if_neg (by omega), if_pos hc]
    exact ⟨rfl, fun h => absurd h (by decide)⟩
  · rw [if_neg (by omega), if_neg (by omega), if_neg (by omega)]
    exact ⟨rfl, fun _ => ⟨rfl, rfl⟩⟩
end Go.PM

namespace Go.PM
open Go.Proofs
attribute [local irreducible] W PCalls pcall pcallI WL
/-- What is decoded as a byte string. -/
def gS (b : List UInt8) : List UInt8 × Nat × Int :=
  if (gcT 1 b).2.2 ≠ 0 then ([], 0, (gcT 1 b).2.2) else ((b.drop (gcT 1 b).2.1).take (gcT 1 b).1.toNat, (gcT 1 b).2.1 + (gcT 1 b).1.toNat, 0)
@[reducible] def s3 (x : List UInt8 × Nat × Int) : PV := .tuple [pstr x.1, pint .i64 x.2.1, pint .i64 x.2.2]
theorem gC_ok {size : Nat} (hs : 1 ≤ size) {b : List UInt8} (h : (gcT size b).2.2 = 0) :
    gI b = gcT size b ∧ 0 ≤ (gcT size b).1 ∧ (gcT size b).2.1 ≤ b.length ∧ (gcT size b).1 ≤ ((b.length - (gcT size b).2.1 : Nat) : Int) / size ∧ (gcT size b).1 * size ≤ (b.length : Int) - (gcT size b).2.1 := by
  have hle := gI_le b
  unfold gcT at h ⊢
  split at h
  · rename_i h1
    exact absurd h h1
  · rename_i h1
    rw [if_neg h1]
    split at h
    · simp at h
    · rename_i h2
      rw [if_neg h2]
      split at h
      · simp at h
      · rename_i h3
        rw [if_neg h3]
        refine ⟨rfl, by omega, hle, by omega, ?_⟩
        have h4 : (gI b).1 ≤ ((b.length - (gI b).2.1 : Nat) : Int) / size := by omega
        have h5 := Int.mul_le_mul_of_nonneg_right h4 (show (0 : Int) ≤ size by omega)
        have h6 := Int.ediv_mul_le ((b.length - (gI b).2.1 : Nat) : Int) (show (size : Int) ≠ 0 by omega)
        omega
theorem gC_e (size : Nat) (b : List UInt8) (hb : (b.length : Int) ≤ 4611686018427387904) : 0 ≤ (gcT size b).2.2 ∧ (gcT size b).2.2 ≤ 3 := by
  have := gI_vals b hb
  unfold gcT
  split
  · exact ⟨this.2.2.1, this.2.2.2⟩
  · split
    · exact ⟨by simp, by simp⟩
    · split
      · exact ⟨by simp, by simp⟩
      · exact ⟨this.2.2.1, this.2.2.2⟩
theorem map_unb (l : List UInt8) : List.map unb (List.map pbyte l) = l := bytes_unb l
theorem all_isByte (l : List UInt8) : (List.map pbyte l).all isByte = true := bytes_isByte l
set_option maxRecDepth 100000 in
set_option maxHeartbeats 8000000 in
theorem getBytes_c (G : Globs) (b : List UInt8) (hb : (b.length : Int) ≤ 4294967296) :
    PCalls Tryd.prog G 32 [.list 1 (b.map pbyte)] [] (fun res H => res = s3 (gS b) ∧ H = []) := by
  (refine PCalls_f Tryd.func32 rfl Tryd.ntmps32 Tryd.results32 (by simp) fun fin hfin => ?_; have hnm : True := trivial; simp only [ev, simprocAttr])
  repeat' (first
    | (with_reducible apply W_seq_k; intro nx hnx)
    | (with_reducible first | refine wr 253 ?_)
    | ((with_reducible first | (apply WL_op; intro nx hnx) | refine Ev_out ?_ | refine wc ?_ | (refine pf hnm fun nm hnm => ?_; try simp only [fmb] at hnm) | (refine pm hnm fun nm hnm => ?_; try simp only [fmb] at hnm)); try (simp (maxSteps := 2000000) (disch := omega) only [ev, ↓evp, PV.cells, PV.one, PV.mem?, Value.cells, simprocAttr, hnm, Tryd.tf0, Tryd.tf1, Tryd.tf2, Tryd.tf3, Tryd.tf4, Tryd.tf5, Tryd.tf9, Tryd.tf27, Tryd.tf28, Tryd.tf106, Tryd.call55]))
    | ((with_reducible first | apply W_block | apply W_scope | apply WL_nil | apply W_label | apply W_skip | apply W_exit | apply W_ret) <;> try simp only [kks, simprocAttr])
    | (with_reducible apply pg <;> (intro hc; (try simp only [hcb, simprocAttr, ne_eq, forall_const] at hc); first | (exfalso; omega) | exact absurd trivial hc | skip))
    | (with_reducible apply hnx; clear hnx nx)
    | (with_reducible refine And.intro (by omega) ?_)
    | (with_reducible refine And.intro ?_ ?_)
    | (clear hnx nx; with_reducible apply hnx; clear hnx nx)
    | (clear hnx nx; clear hnx nx; with_reducible apply hnx; clear hnx nx))
  refine pcall_k (count_c G b 1 (by omega) (by omega) (by omega)) ?_
  rintro _ _ ⟨⟨n, u, rfl, hok⟩, rfl⟩ -
  have he := gC_e 1 b (by omega)
  have hgok := gC_ok (size := 1) (by omega) (b := b)
  have hgS : gS b = if (gcT 1 b).2.2 ≠ 0 then ([], 0, (gcT 1 b).2.2) else ((b.drop (gcT 1 b).2.1).take (gcT 1 b).1.toNat, (gcT 1 b).2.1 + (gcT 1 b).1.toNat, 0) := rfl
  generalize gcT 1 b = x at hok he hgok hgS ⊢
  obtain ⟨k, a, e⟩ := x
  simp only at hok he hgok hgS ⊢
  by_cases hez : e = 0
  · subst hez
    obtain ⟨h1, h2⟩ := hok rfl
    obtain ⟨h3, h4, h5, h6, h7⟩ := hgok rfl
    obtain ⟨k', rfl⟩ : ∃ k' : Nat, k = k' := ⟨k.toNat, by omega⟩
    subst h1
    subst h2
    have hmid : List.drop a (List.take (a + k') (b.map pbyte)) = ((b.drop a).take k').map pbyte := by
      rw [List.drop_take, List.map_take, List.map_drop, show a + k' - a = k' by omega]
    have ht : ((a : Int) + (k' : Int)).toNat = a + k' := by omega
    refine Ev_in ?_
    repeat' (first
    | (with_reducible apply W_seq_k; intro nx hnx)
    | (with_reducible first | refine wr 253 ?_)
    | ((with_reducible first | (apply WL_op; intro nx hnx) | refine Ev_out ?_ | refine wc ?_ | (refine pf hnm fun nm hnm => ?_; try simp only [fmb] at hnm) | (refine pm hnm fun nm hnm => ?_; try simp only [fmb] at hnm)); try (simp (maxSteps := 2000000) (disch := omega) only [ev, ↓evp, PV.cells, PV.one, PV.mem?, Value.cells, simprocAttr, hnm, Tryd.tf0, Tryd.tf1, Tryd.tf2, Tryd.tf3, Tryd.tf4, Tryd.tf5, Tryd.tf9, Tryd.tf27, Tryd.tf28, Tryd.tf106, Tryd.call55, ht, hmid, all_isByte, map_unb]))
    | ((with_reducible first | apply W_block | apply W_scope | apply WL_nil | apply W_label | apply W_skip | apply W_exit | apply W_ret) <;> try simp only [kks, simprocAttr])
    | (with_reducible apply pg <;> (intro hc; (try simp only [hcb, simprocAttr, ne_eq, forall_const] at hc); first | (exfalso; omega) | exact absurd trivial hc | skip))
    | (with_reducible apply hnx; clear hnx nx)
    | (with_reducible refine And.intro (by omega) ?_)
    | (with_reducible refine And.intro ?_ ?_)
    | (clear hnx nx; with_reducible apply hnx; clear hnx nx)
    | (clear hnx nx; clear hnx nx; with_reducible apply hnx; clear hnx nx))
    all_goals first
      | exact rfl
      | (exfalso
         omega)
      | skip
    refine hfin _ _ (Fin_ret3 rfl rfl rfl (Sub_nil _) ?_); simp only [cob, simprocAttr]
    refine ⟨?_, by trivial⟩
    rw [hgS, if_neg (by simp)]
    simp
  · (simp only [PState.put, fr_set, List.nil_append, List.append_nil]; try simp (maxSteps := 2000000) (disch := omega) only [ev, ↓evp, PV.cells, PV.one, PV.mem?, Value.cells, simprocAttr, hnm, Tryd.tf0, Tryd.tf1, Tryd.tf2, Tryd.tf3, Tryd.tf4, Tryd.tf5, Tryd.tf9, Tryd.tf27, Tryd.tf28, Tryd.tf106, Tryd.call55])
    repeat' (first
    | (with_reducible apply W_seq_k; intro nx hnx)
    | (with_reducible first | refine wr 253 ?_)
    | ((with_reducible first | (apply WL_op; intro nx hnx) | refine Ev_out ?_ | refine wc ?_ | (refine pf hnm fun nm hnm => ?_; try simp only [fmb] at hnm) | (refine pm hnm fun nm hnm => ?_; try simp only [fmb] at hnm)); try (simp (maxSteps := 2000000) (disch := omega) only [ev, ↓evp, PV.cells, PV.one, PV.mem?, Value.cells, simprocAttr, hnm, Tryd.tf0, Tryd.tf1, Tryd.tf2, Tryd.tf3, Tryd.tf4, Tryd.tf5, Tryd.tf9, Tryd.tf27, Tryd.tf28, Tryd.tf106, Tryd.call55]))
    | ((with_reducible first | apply W_block | apply W_scope | apply WL_nil | apply W_label | apply W_skip | apply W_exit | apply W_ret) <;> try simp only [kks, simprocAttr])
    | (with_reducible apply pg <;> (intro hc; (try simp only [hcb, simprocAttr, ne_eq, forall_const] at hc); first | (exfalso; omega) | exact absurd trivial hc | skip))
    | (with_reducible apply hnx; clear hnx nx)
    | (with_reducible refine And.intro (by omega) ?_)
    | (with_reducible refine And.intro ?_ ?_)
    | (clear hnx nx; with_reducible apply hnx; clear hnx nx)
    | (clear hnx nx; clear hnx nx; with_reducible apply hnx; clear hnx nx))
    all_goals first
      | (exfalso
         omega)
      | skip
    refine hfin _ _ (Fin_ret3 rfl rfl rfl (Sub_nil _) ?_); simp only [cob, simprocAttr]
    refine ⟨?_, by trivial⟩
    rw [hgS, if_pos hez]
    rfl
end Go.PM

namespace Go.PM
open Go.Proofs
attribute [local irreducible] W PCalls pcall pcallI WL
section
variable {α : Type}
/-- What is decoded of so many elements, one after the other. -/
def gL (g : List UInt8 → α × Nat × Int) : Nat → List UInt8 → List α × Nat × Int
  | 0, _ => ([], 0, 0)
  | k + 1, b => if (g b).2.2 ≠ 0 then ([], 0, (g b).2.2)
    else if (gL g k (b.drop (g b).2.1)).2.2 ≠ 0 then ([], 0, (gL g k (b.drop (g b).2.1)).2.2)
    else ((g b).1 :: (gL g k (b.drop (g b).2.1)).1, (g b).2.1 + (gL g k (b.drop (g b).2.1)).2.1, 0)
def comb (pre : List α) (a : Nat) (r : List α × Nat × Int) : List α × Nat × Int := if r.2.2 ≠ 0 then ([], 0, r.2.2) else (pre ++ r.1, a + r.2.1, 0)
/-- What is decoded of a list. -/
def gLs (g : List UInt8 → α × Nat × Int) (size : Nat) (b : List UInt8) : List α × Nat × Int :=
  if (gcT size b).2.2 ≠ 0 then ([], 0, (gcT size b).2.2) else comb [] (gcT size b).2.1 (gL g (gcT size b).1.toNat (b.drop (gcT size b).2.1))
theorem comb_nil (g : List UInt8 → α × Nat × Int) (pre : List α) (a : Nat) (b : List UInt8) : comb pre a (gL g 0 b) = (pre, a, 0) := by simp [comb, gL]
theorem comb_err (g : List UInt8 → α × Nat × Int) (pre : List α) (a m : Nat) (b : List UInt8) (h : (g b).2.2 ≠ 0) : comb pre a (gL g (m + 1) b) = ([], 0, (g b).2.2) := by
  rw [gL, if_pos h, comb, if_pos h]
theorem comb_ok (g : List UInt8 → α × Nat × Int) (pre : List α) (a m : Nat) (b : List UInt8) (h : (g b).2.2 = 0) : comb pre a (gL g (m + 1) b) = comb (pre ++ [(g b).1]) (a + (g b).2.1) (gL g m (b.drop (g b).2.1)) := by
  rw [gL, if_neg (by rw [h]; simp)]
  by_cases h2 : (gL g m (b.drop (g b).2.1)).2.2 = 0
  · rw [if_neg (by rw [h2]; simp)]
    unfold comb
    rw [if_neg (by simp), if_neg (by rw [h2]; simp)]
    simp [Nat.add_assoc]
  · rw [if_pos h2]
    unfold comb
    rw [if_pos h2, if_pos h2]
theorem comb_norm (pre : List α) (a : Nat) (r : List α × Nat × Int) (h : (comb pre a r).2.2 ≠ 0) : (comb pre a r).1 = [] ∧ (comb pre a r).2.1 = 0 := by
  unfold comb at h ⊢
  split at h
  · rename_i h1
    rw [if_pos h1]
    exact ⟨rfl, rfl⟩
  · simp at h
theorem gLs_norm (g : List UInt8 → α × Nat × Int) (size : Nat) (b : List UInt8) (h : (gLs g size b).2.2 ≠ 0) : (gLs g size b).1 = [] ∧ (gLs g size b).2.1 = 0 := by
  unfold gLs at h ⊢
  split at h
  · rename_i h1
    rw [if_pos h1]
    exact ⟨rfl, rfl⟩
  · rename_i h1
    rw [if_neg h1]
    exact comb_norm _ _ _ h
/-- A list that was built, or none. -/
def LR (cf : List α → List PV) (ty : TypeId) (es : Nat) (x : List α × Nat × Int) (res : PV) (H : Heap) : Prop :=
  (x.2.2 ≠ 0 ∧ res = .tuple [pnil, pint .i64 (0 : Nat), pint .i64 x.2.2] ∧ H = []) ∨
  (x.2.2 = 0 ∧ ∃ N, res = .tuple [.row N es x.1.length, pint .i64 x.2.1, pint .i64 0] ∧ H = [(N, ⟨ty, true, es, cf x.1⟩)])
theorem Px.nil3 {G : Globs} (es : Nat) (q r : PV) (H : Heap) : Px G (.tuple [pnil, q, r]) H (.tuple [.list es [], q, r]) H := fun _ _ A _ w v hs hr => by
  refine ⟨A, hs, ?_⟩
  cases hr with
  | tuple cs f h2 =>
    refine .tuple [.list es [], q, r] f fun j u hu => ?_
    cases j with
    | zero =>
      cases hu
      exact nil_list es (h2 0 pnil rfl)
    | succ j => exact h2 (j + 1) u hu
theorem LR.frz {G : Globs} {f : FuncId} {args : List PV} {cf : List α → List PV} {pv : α → PV} {ty : TypeId} {es : Nat} {x : List α × Nat × Int}
    (h : PCalls Tryd.prog G f args [] (LR cf ty es x)) (hes : 0 < es) (hn : x.2.2 ≠ 0 → x.1 = [] ∧ x.2.1 = 0) (hlen : x.1.length * es ≤ (cf x.1).length) (hel : elemsOf es (cf x.1) x.1.length = x.1.map pv) :
    PCalls Tryd.prog G f args [] (fun res H => res = .tuple [.list es (x.1.map pv), pint .i64 x.2.1, pint .i64 x.2.2] ∧ H = []) := by
  refine h.px fun res H hR => ?_
  rcases hR with ⟨he, rfl, rfl⟩ | ⟨he, N, rfl, rfl⟩
  · obtain ⟨h1, h2⟩ := hn he
    refine ⟨_, _, Px.nil3 es _ _ _, ?_, rfl⟩
    rw [h1, h2]
    rfl
  · have h2 := Px.freeze (G := G) (.tuple [.row N es x.1.length, pint .i64 x.2.1, pint .i64 0]) [(N, ⟨ty, true, es, cf x.1⟩)] N (o := ⟨ty, true, es, cf x.1⟩) (by simp only [look, if_true]) (by simp [frzOk, del])
    refine ⟨_, _, h2, ?_, by simp [frzH, del]⟩
    simp only [PM.frz, frz1, if_true, List.map_cons, List.map_nil]
    rw [if_pos ⟨hlen, hes⟩, hel, he]
end
theorem elems_one {α : Type} (f : α → PV) (l : List α) : elemsOf 1 (l.map f) l.length = l.map f := by
  rw [elemsOf, if_pos rfl, List.take_of_length_le (by simp)]
def catDw (l : List (List UInt8)) : List PV := l.flatten.map pbyte
theorem catDw_len : ∀ (l : List (List UInt8)), (∀ d ∈ l, d.length = 16) → (catDw l).length = l.length * 16
  | [], _ => by simp [catDw]
  | d :: l, h => by
    have ih := catDw_len l fun x hx => h x (.tail _ hx)
    have hd := h d (.head _)
    simp only [catDw, List.length_map, List.flatten_cons, List.length_append, List.length_cons] at ih ⊢
    omega
theorem elems_digw : ∀ (l : List (List UInt8)), (∀ d ∈ l, d.length = 16) → elemsOf 16 (catDw l) l.length = l.map pdh
  | [], _ => by simp [elemsOf]
  | d :: l, h => by
    have ih := elems_digw l fun x hx => h x (.tail _ hx)
    have hd := h d (.head _)
    rw [elemsOf, if_neg (by omega)] at ih ⊢
    have e : catDw (d :: l) = d.map pbyte ++ catDw l := by simp [catDw]
    rw [List.length_cons, List.range_succ_eq_map, List.map_cons, List.map_map, List.map_cons]
    congr 1
    · rw [e, Nat.zero_mul, List.drop_zero, List.take_append_of_le_length (by simp [hd]), List.take_of_length_le (by simp [hd])]
    · rw [← ih]
      refine List.map_congr_left fun i _ => ?_
      simp only [Function.comp_apply]
      rw [e, show (i + 1) * 16 = 16 + i * 16 by omega, ← List.drop_drop, List.drop_left' (by simp [hd])]
end Go.PM
