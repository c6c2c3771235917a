/- The contracts of the reference's code of a text by a key. Conditions: none but those that each names. -/
import Derived.Test.YtoekafodjjeboaaDoorHk
set_option linter.unusedSimpArgs false
set_option linter.unusedVariables false
namespace Go.PM
open Go.Proofs
attribute [local irreducible] W PCalls pcall pcallI WL

theorem macP_get (k : List UInt8) (w : UInt8) (i : Nat) (hk : k.length ≤ 64) (hi : i < 64) : (macP k w).take (i + 1) = (macP k w).take i ++ [(if i < k.length then k.getD i 0 else 0) ^^^ w] := by
  rw [List.take_add_one]
  congr 1
  rw [macP, List.getElem?_map, zpad]
  by_cases h : i < k.length
  · rw [List.getElem?_append_left h, List.getElem?_eq_getElem h, if_pos h, List.getD_eq_getElem?_getD, List.getElem?_eq_getElem h]
    rfl
  · rw [List.getElem?_append_right (by omega), List.getElem?_replicate, if_pos (by omega), if_neg h]
    rfl

set_option maxRecDepth 100000 in
set_option maxHeartbeats 16000000 in
theorem padKey_r (G : Globs) (hG : G 0 = .iptr (KS.map pw) 0) (key : List UInt8) (w : UInt8) (h1 : key.length ≤ 4294950000) : PCalls Tryd.prog G 32 [pstr key, pbyte w] [] (RowB (macP (k64 key) w)) := by
  have hk := k64_len key
  have hkb : bytes key = key.map pbyte := rfl
  have hs := rsum_c G hG key (by omega)
  have hb := b32_c G (sha key) (sha_len key)
  have hk64 : k64 key = if 64 < key.length then sha key else key := rfl
  have hl64 : (macP (k64 key) w).length = 64 := macP_len _ _ hk
  obtain ⟨k, hkd⟩ : ∃ k, k = k64 key := ⟨_, rfl⟩
  have e5 := sha_len key
  rw [← hkd] at hk hk64 hl64 ⊢
  (refine PCalls_f Tryd.func32 rfl Tryd.ntmps32 Tryd.results32 (by simp) fun fin hfin => ?_; have hnm : True := trivial; simp (maxSteps := 2000000) (disch := omega) only [↓popG_eq, ↓pop.eq_1, ↓List.getElem?_map, ↓List.getElem?_cons_zero, ↓List.getElem?_cons_succ, pbuiltin, opnd, constPV, PState.put, fr_set, fr_getD_nil, fr_same, fr_other, layFrom, List.set, pnck, pguard_tt, pguard_tf, pguard_ft, pguard_ff, seqK, blockK, scopeK, List.map_cons, List.map_nil, List.getD_cons_zero, List.getD_cons_succ, List.getD_nil, List.getElem?_nil, Option.join_some, Option.join_none, pbin, pun, ppick, plen, pldop, pload, pfaddr, piaddr, pindex, pfield, pslice, pbound, pconv, pelems, pextract, pmm, parr, pbuild, pfill, PV.mem?, PV.one, PV.cells, pageq, peqs, peq1, palloc, pbox, pbuildS, pmakes, pstore, pappend, pcopy, pbytes, pmark, psrc, vcells, Value.oneCell', look, upd, del, names, Option.map_some, Option.map_none, List.length_cons, List.length_nil, List.all_cons, List.all_nil, Bool.and_true, Bool.true_and, Bool.not_true, Bool.not_false, List.take_zero, List.drop_zero, List.nil_append, List.cons_append, List.append_nil, Nat.reduceAdd, Nat.reduceMul, Nat.reduceSub, Nat.reduceLeDiff, Nat.reduceEqDiff, Nat.zero_add, Nat.add_zero, Nat.mul_one, Nat.zero_mul, List.drop_succ_cons, List.take_succ_cons, List.drop_nil, List.take_nil, ↓reduceIte, ne_eq, true_and, and_true, not_false_eq_true, reduceCtorEq, forall_const, List.toList_toArray, times, List.replicate_succ, List.replicate_zero, List.flatten_cons, List.flatten_nil, Value.cells, Int.toNat_natCast, Int.toNat_zero, Int.toNat_one, bl_mk, bl_lit, wr64, toNat_add1, toNat_sub1, map_getD, Int.natCast_nonneg, List.length_map, Bool.not_not, List.not_mem_nil, Option.some.injEq, exists_and_left, exists_eq_left', Int.cast_ofNat_Int, Int.natCast_zero, eq_self, List.size_toArray, Nat.reduceLT, Int.reduceLT, Int.reduceLE, Int.reduceToNat, Int.reduceAdd, Int.reduceSub, Int.reduceNeg, decide_true, decide_false, List.length_take, List.length_append, List.length_drop, hnm, Tryd.tf1, Tryd.tf3, Tryd.tf4, Tryd.tf5, Tryd.tf9, Tryd.tf22, Tryd.tf24, Tryd.teq24, Tryd.teq30, Tryd.teq31, Tryd.teq43, Tryd.teq44, Tryd.teq48, Tryd.teq54, Tryd.teq63, Tryd.call12, Tryd.call20])
  repeat' (first
    | (with_reducible apply W_seq_k; intro nx hnx)
    | with_reducible apply W_block
    | with_reducible apply W_scope
    | (with_reducible refine W_prune 499 ?_; simp only [prune_cons, prune_nil, Nat.reducePow, Nat.reduceDiv, Nat.reduceMod, Nat.reduceBEq, cond_true, cond_false]; with_reducible apply W_region_l)
    | ((first | (with_reducible apply WL_op; intro nx hnx) | with_reducible refine Ev_out ?_ | (with_reducible refine pfresh_k hnm fun nm hnm => ?_; (try simp only [List.forall_mem_cons, List.not_mem_nil, false_implies, implies_true, and_true, true_and, ne_eq] at hnm))); try (simp (maxSteps := 2000000) (disch := omega) only [↓popG_eq, ↓pop.eq_1, ↓List.getElem?_map, ↓List.getElem?_cons_zero, ↓List.getElem?_cons_succ, pbuiltin, opnd, constPV, PState.put, fr_set, fr_getD_nil, fr_same, fr_other, layFrom, List.set, pnck, pguard_tt, pguard_tf, pguard_ft, pguard_ff, seqK, blockK, scopeK, List.map_cons, List.map_nil, List.getD_cons_zero, List.getD_cons_succ, List.getD_nil, List.getElem?_nil, Option.join_some, Option.join_none, pbin, pun, ppick, plen, pldop, pload, pfaddr, piaddr, pindex, pfield, pslice, pbound, pconv, pelems, pextract, pmm, parr, pbuild, pfill, PV.mem?, PV.one, PV.cells, pageq, peqs, peq1, palloc, pbox, pbuildS, pmakes, pstore, pappend, pcopy, pbytes, pmark, psrc, vcells, Value.oneCell', look, upd, del, names, Option.map_some, Option.map_none, List.length_cons, List.length_nil, List.all_cons, List.all_nil, Bool.and_true, Bool.true_and, Bool.not_true, Bool.not_false, List.take_zero, List.drop_zero, List.nil_append, List.cons_append, List.append_nil, Nat.reduceAdd, Nat.reduceMul, Nat.reduceSub, Nat.reduceLeDiff, Nat.reduceEqDiff, Nat.zero_add, Nat.add_zero, Nat.mul_one, Nat.zero_mul, List.drop_succ_cons, List.take_succ_cons, List.drop_nil, List.take_nil, ↓reduceIte, ne_eq, true_and, and_true, not_false_eq_true, reduceCtorEq, forall_const, List.toList_toArray, times, List.replicate_succ, List.replicate_zero, List.flatten_cons, List.flatten_nil, Value.cells, Int.toNat_natCast, Int.toNat_zero, Int.toNat_one, bl_mk, bl_lit, wr64, toNat_add1, toNat_sub1, map_getD, Int.natCast_nonneg, List.length_map, Bool.not_not, List.not_mem_nil, Option.some.injEq, exists_and_left, exists_eq_left', Int.cast_ofNat_Int, Int.natCast_zero, eq_self, List.size_toArray, Nat.reduceLT, Int.reduceLT, Int.reduceLE, Int.reduceToNat, Int.reduceAdd, Int.reduceSub, Int.reduceNeg, decide_true, decide_false, List.length_take, List.length_append, List.length_drop, hnm, Tryd.tf1, Tryd.tf3, Tryd.tf4, Tryd.tf5, Tryd.tf9, Tryd.tf22, Tryd.tf24, Tryd.teq24, Tryd.teq30, Tryd.teq31, Tryd.teq43, Tryd.teq44, Tryd.teq48, Tryd.teq54, Tryd.teq63, Tryd.call12, Tryd.call20, hkb]); repeat (refine And.intro (by omega) ?_))
    | ((first | with_reducible apply WL_nil | with_reducible apply W_label | with_reducible apply W_skip | with_reducible apply W_exit | with_reducible apply W_ret); try simp only [seqK, blockK, scopeK, ↓reduceIte, Nat.reduceEqDiff])
    | (with_reducible apply W_cond_k; intro _ _ ea eb; (simp only [condK, not_true_eq_false, not_false_eq_true, opnd, constPV, List.getD_cons_zero, List.getD_cons_succ, fr_getD_cons, fr_getD_nil, Nat.reduceEqDiff, Nat.reduceLT, ↓reduceIte, decide_eq_true_eq, decide_eq_false_iff_not, reduceCtorEq, false_implies, true_implies, and_true, true_and, Bool.not_eq_true, Bool.not_eq_false, forall_const, bne_iff_ne, bne_eq_false_iff_eq, beq_iff_eq, beq_eq_false_iff_ne, ne_eq, Decidable.not_not, Bool.not_eq_eq_eq_not, Bool.not_true, Bool.not_false, Bool.and_eq_true, Bool.or_eq_true, Int.natCast_inj, Bool.and_eq_false_iff, Bool.or_eq_false_iff]); subst ea eb; first | (refine ⟨fun hc => ?_, fun hc => ?_⟩ <;> first | (exfalso; omega) | (exfalso; exact hc trivial) | skip) | skip)
    | (with_reducible apply hnx; clear hnx nx)
    | (with_reducible refine And.intro (by omega) ?_)
    | (with_reducible refine And.intro ?_ ?_)
    | (with_reducible refine pcall_k (hs) ?_; rintro _ _ ⟨rfl, rfl⟩ -; refine Ev_in ?_)
    | (with_reducible refine pcall_k (hb) ?_; rintro _ _ ⟨rfl, rfl⟩ -; refine Ev_in ?_)
    | (clear hnx nx; with_reducible apply hnx; clear hnx nx)
    | (clear hnx nx; clear hnx nx; with_reducible apply hnx; clear hnx nx)
    | (clear hnx nx; clear hnx nx; clear hnx nx; with_reducible apply hnx; clear hnx nx))
  all_goals first
    | exact rfl
    | (exfalso
       omega)
    | skip
  all_goals
    have hcase : (64 < key.length ∧ sha key = k) ∨ (¬ 64 < key.length ∧ key = k) := by
      by_cases hl : 64 < key.length
      · exact .inl ⟨hl, by rw [hk64, if_pos hl]⟩
      · exact .inr ⟨hl, by rw [hk64, if_neg hl]⟩
    refine W_adopt_f 6 5 1 (by simp only [fr_getD_cons, Nat.reduceEqDiff, Nat.reduceLT, ↓reduceIte]) fun D0 hD0 => ?_
    refine W_loop_k (fun z τ => ∃ (i : Nat) (N : Int) (o : List UInt8), i ≤ 64 ∧ z = 64 - i ∧ o = (macP k w).take i ∧ τ = ⟨fr 35 [(6, .row N 1 o.length), (5, pstr k), (1, pbyte w), (7, pint .i64 i)], [(N, ⟨5, true, 1, o.map pbyte⟩)]⟩) 64
      ⟨fr 35 [(6, .row D0 1 0), (5, pstr k), (1, pbyte w), (7, pint .i64 (0 : Nat))], [(D0, ⟨5, true, 1, []⟩)]⟩ (by
      rcases hcase with ⟨h, e⟩ | ⟨h, e⟩
      · first
        | (exfalso
           omega)
        | (rw [e]
           exact Wk_fr (by simp only [List.forall_mem_cons, List.not_mem_nil, false_implies, implies_true, and_true, true_and, and_self, fr_getD_cons, fr_getD_nil, Nat.reduceEqDiff, Nat.reduceLT, ↓reduceIte, Int.natCast_add, Int.cast_ofNat_Int, Int.natCast_zero]) ⟨by simp, by simp [names]⟩)
      · first
        | (exfalso
           omega)
        | (rw [e]
           exact Wk_fr (by simp only [List.forall_mem_cons, List.not_mem_nil, false_implies, implies_true, and_true, true_and, and_self, fr_getD_cons, fr_getD_nil, Nat.reduceEqDiff, Nat.reduceLT, ↓reduceIte, Int.natCast_add, Int.cast_ofNat_Int, Int.natCast_zero]) ⟨by simp, by simp [names]⟩)) ⟨0, D0, [], by omega, by omega, by simp, rfl⟩ ?_
    rintro z τ ⟨i, N, o, hi, rfl, ho, rfl⟩ lp hlp
    have hol : o.length = i := by rw [ho, List.length_take]; omega
    by_cases hik : i < 64
    · have htk := macP_get k w i hk hik
      obtain ⟨x, hx⟩ : ∃ x, x = (if i < k.length then k.getD i 0 else 0) := ⟨_, rfl⟩
      rw [← hx] at htk
      have hxw := b_xor x w
      have hx0 : ¬ i < k.length → pint .u8 0 = pbyte x := fun h => by rw [hx, if_neg h]; rfl
      have hx1 : i < k.length → k.getD i 0 = x := fun h => by rw [hx, if_pos h]
      have hz0 : ¬ i < k.length → bits .xor .u8 0 (w.toNat : Int) = ((x ^^^ w).toNat : Int) := fun h => by
        rw [← hxw, hx, if_neg h]
        rfl
      clear hx hcase
      repeat' (first
    | (with_reducible apply W_seq_k; intro nx hnx)
    | with_reducible apply W_block
    | with_reducible apply W_scope
    | (with_reducible refine W_prune 499 ?_; simp only [prune_cons, prune_nil, Nat.reducePow, Nat.reduceDiv, Nat.reduceMod, Nat.reduceBEq, cond_true, cond_false]; with_reducible apply W_region_l)
    | ((first | (with_reducible apply WL_op; intro nx hnx) | with_reducible refine Ev_out ?_ | (with_reducible refine pfresh_k hnm fun nm hnm => ?_; (try simp only [List.forall_mem_cons, List.not_mem_nil, false_implies, implies_true, and_true, true_and, ne_eq] at hnm))); try (simp (maxSteps := 2000000) (disch := omega) only [↓popG_eq, ↓pop.eq_1, ↓List.getElem?_map, ↓List.getElem?_cons_zero, ↓List.getElem?_cons_succ, pbuiltin, opnd, constPV, PState.put, fr_set, fr_getD_nil, fr_same, fr_other, layFrom, List.set, pnck, pguard_tt, pguard_tf, pguard_ft, pguard_ff, seqK, blockK, scopeK, List.map_cons, List.map_nil, List.getD_cons_zero, List.getD_cons_succ, List.getD_nil, List.getElem?_nil, Option.join_some, Option.join_none, pbin, pun, ppick, plen, pldop, pload, pfaddr, piaddr, pindex, pfield, pslice, pbound, pconv, pelems, pextract, pmm, parr, pbuild, pfill, PV.mem?, PV.one, PV.cells, pageq, peqs, peq1, palloc, pbox, pbuildS, pmakes, pstore, pappend, pcopy, pbytes, pmark, psrc, vcells, Value.oneCell', look, upd, del, names, Option.map_some, Option.map_none, List.length_cons, List.length_nil, List.all_cons, List.all_nil, Bool.and_true, Bool.true_and, Bool.not_true, Bool.not_false, List.take_zero, List.drop_zero, List.nil_append, List.cons_append, List.append_nil, Nat.reduceAdd, Nat.reduceMul, Nat.reduceSub, Nat.reduceLeDiff, Nat.reduceEqDiff, Nat.zero_add, Nat.add_zero, Nat.mul_one, Nat.zero_mul, List.drop_succ_cons, List.take_succ_cons, List.drop_nil, List.take_nil, ↓reduceIte, ne_eq, true_and, and_true, not_false_eq_true, reduceCtorEq, forall_const, List.toList_toArray, times, List.replicate_succ, List.replicate_zero, List.flatten_cons, List.flatten_nil, Value.cells, Int.toNat_natCast, Int.toNat_zero, Int.toNat_one, bl_mk, bl_lit, wr64, toNat_add1, toNat_sub1, map_getD, Int.natCast_nonneg, List.length_map, Bool.not_not, List.not_mem_nil, Option.some.injEq, exists_and_left, exists_eq_left', Int.cast_ofNat_Int, Int.natCast_zero, eq_self, List.size_toArray, Nat.reduceLT, Int.reduceLT, Int.reduceLE, Int.reduceToNat, Int.reduceAdd, Int.reduceSub, Int.reduceNeg, decide_true, decide_false, List.length_take, List.length_append, List.length_drop, hnm, Tryd.tf1, Tryd.tf3, Tryd.tf4, Tryd.tf5, Tryd.tf9, Tryd.tf22, Tryd.tf24, Tryd.teq24, Tryd.teq30, Tryd.teq31, Tryd.teq43, Tryd.teq44, Tryd.teq48, Tryd.teq54, Tryd.teq63, Tryd.call12, Tryd.call20, hx1, hxw, hz0]); repeat (refine And.intro (by omega) ?_))
    | ((first | with_reducible apply WL_nil | with_reducible apply W_label | with_reducible apply W_skip | with_reducible apply W_exit | with_reducible apply W_ret); try simp only [seqK, blockK, scopeK, ↓reduceIte, Nat.reduceEqDiff])
    | (with_reducible apply W_cond_k; intro _ _ ea eb; (simp only [condK, not_true_eq_false, not_false_eq_true, opnd, constPV, List.getD_cons_zero, List.getD_cons_succ, fr_getD_cons, fr_getD_nil, Nat.reduceEqDiff, Nat.reduceLT, ↓reduceIte, decide_eq_true_eq, decide_eq_false_iff_not, reduceCtorEq, false_implies, true_implies, and_true, true_and, Bool.not_eq_true, Bool.not_eq_false, forall_const, bne_iff_ne, bne_eq_false_iff_eq, beq_iff_eq, beq_eq_false_iff_ne, ne_eq, Decidable.not_not, Bool.not_eq_eq_eq_not, Bool.not_true, Bool.not_false, Bool.and_eq_true, Bool.or_eq_true, Int.natCast_inj, Bool.and_eq_false_iff, Bool.or_eq_false_iff]); subst ea eb; first | (refine ⟨fun hc => ?_, fun hc => ?_⟩ <;> first | (exfalso; omega) | (exfalso; exact hc trivial) | skip) | skip)
    | (with_reducible apply hnx; clear hnx nx)
    | (with_reducible refine And.intro (by omega) ?_)
    | (with_reducible refine And.intro ?_ ?_)
    | (clear hnx nx; with_reducible apply hnx; clear hnx nx)
    | (clear hnx nx; clear hnx nx; with_reducible apply hnx; clear hnx nx)
    | (clear hnx nx; clear hnx nx; clear hnx nx; with_reducible apply hnx; clear hnx nx))
      all_goals first
        | (exfalso
           omega)
        | skip
      all_goals
        refine hlp _ (64 - (i + 1)) _ (by omega) ?_ ⟨i + 1, nm, o ++ [x ^^^ w], by omega, rfl, by rw [htk, ho], rfl⟩
        rw [List.length_append, List.map_append]
        exact Wk_fr (by simp only [List.forall_mem_cons, List.not_mem_nil, false_implies, implies_true, and_true, true_and, and_self, fr_getD_cons, fr_getD_nil, Nat.reduceEqDiff, Nat.reduceLT, ↓reduceIte, Int.natCast_add, Int.cast_ofNat_Int, Int.natCast_zero, List.length_cons, List.length_nil, Nat.zero_add]) ⟨by simp, by simp [names]⟩
    · have hom : o = macP k w := by rw [ho, List.take_of_length_le (by omega)]
      rw [← hom] at hfin
      repeat' (first
    | (with_reducible apply W_seq_k; intro nx hnx)
    | with_reducible apply W_block
    | with_reducible apply W_scope
    | (with_reducible refine W_prune 499 ?_; simp only [prune_cons, prune_nil, Nat.reducePow, Nat.reduceDiv, Nat.reduceMod, Nat.reduceBEq, cond_true, cond_false]; with_reducible apply W_region_l)
    | ((first | (with_reducible apply WL_op; intro nx hnx) | with_reducible refine Ev_out ?_ | (with_reducible refine pfresh_k hnm fun nm hnm => ?_; (try simp only [List.forall_mem_cons, List.not_mem_nil, false_implies, implies_true, and_true, true_and, ne_eq] at hnm))); try (simp (maxSteps := 2000000) (disch := omega) only [↓popG_eq, ↓pop.eq_1, ↓List.getElem?_map, ↓List.getElem?_cons_zero, ↓List.getElem?_cons_succ, pbuiltin, opnd, constPV, PState.put, fr_set, fr_getD_nil, fr_same, fr_other, layFrom, List.set, pnck, pguard_tt, pguard_tf, pguard_ft, pguard_ff, seqK, blockK, scopeK, List.map_cons, List.map_nil, List.getD_cons_zero, List.getD_cons_succ, List.getD_nil, List.getElem?_nil, Option.join_some, Option.join_none, pbin, pun, ppick, plen, pldop, pload, pfaddr, piaddr, pindex, pfield, pslice, pbound, pconv, pelems, pextract, pmm, parr, pbuild, pfill, PV.mem?, PV.one, PV.cells, pageq, peqs, peq1, palloc, pbox, pbuildS, pmakes, pstore, pappend, pcopy, pbytes, pmark, psrc, vcells, Value.oneCell', look, upd, del, names, Option.map_some, Option.map_none, List.length_cons, List.length_nil, List.all_cons, List.all_nil, Bool.and_true, Bool.true_and, Bool.not_true, Bool.not_false, List.take_zero, List.drop_zero, List.nil_append, List.cons_append, List.append_nil, Nat.reduceAdd, Nat.reduceMul, Nat.reduceSub, Nat.reduceLeDiff, Nat.reduceEqDiff, Nat.zero_add, Nat.add_zero, Nat.mul_one, Nat.zero_mul, List.drop_succ_cons, List.take_succ_cons, List.drop_nil, List.take_nil, ↓reduceIte, ne_eq, true_and, and_true, not_false_eq_true, reduceCtorEq, forall_const, List.toList_toArray, times, List.replicate_succ, List.replicate_zero, List.flatten_cons, List.flatten_nil, Value.cells, Int.toNat_natCast, Int.toNat_zero, Int.toNat_one, bl_mk, bl_lit, wr64, toNat_add1, toNat_sub1, map_getD, Int.natCast_nonneg, List.length_map, Bool.not_not, List.not_mem_nil, Option.some.injEq, exists_and_left, exists_eq_left', Int.cast_ofNat_Int, Int.natCast_zero, eq_self, List.size_toArray, Nat.reduceLT, Int.reduceLT, Int.reduceLE, Int.reduceToNat, Int.reduceAdd, Int.reduceSub, Int.reduceNeg, decide_true, decide_false, List.length_take, List.length_append, List.length_drop, hnm, Tryd.tf1, Tryd.tf3, Tryd.tf4, Tryd.tf5, Tryd.tf9, Tryd.tf22, Tryd.tf24, Tryd.teq24, Tryd.teq30, Tryd.teq31, Tryd.teq43, Tryd.teq44, Tryd.teq48, Tryd.teq54, Tryd.teq63, Tryd.call12, Tryd.call20]); repeat (refine And.intro (by omega) ?_))
    | ((first | with_reducible apply WL_nil | with_reducible apply W_label | with_reducible apply W_skip | with_reducible apply W_exit | with_reducible apply W_ret); try simp only [seqK, blockK, scopeK, ↓reduceIte, Nat.reduceEqDiff])
    | (with_reducible apply W_cond_k; intro _ _ ea eb; (simp only [condK, not_true_eq_false, not_false_eq_true, opnd, constPV, List.getD_cons_zero, List.getD_cons_succ, fr_getD_cons, fr_getD_nil, Nat.reduceEqDiff, Nat.reduceLT, ↓reduceIte, decide_eq_true_eq, decide_eq_false_iff_not, reduceCtorEq, false_implies, true_implies, and_true, true_and, Bool.not_eq_true, Bool.not_eq_false, forall_const, bne_iff_ne, bne_eq_false_iff_eq, beq_iff_eq, beq_eq_false_iff_ne, ne_eq, Decidable.not_not, Bool.not_eq_eq_eq_not, Bool.not_true, Bool.not_false, Bool.and_eq_true, Bool.or_eq_true, Int.natCast_inj, Bool.and_eq_false_iff, Bool.or_eq_false_iff]); subst ea eb; first | (refine ⟨fun hc => ?_, fun hc => ?_⟩ <;> first | (exfalso; omega) | (exfalso; exact hc trivial) | skip) | skip)
    | (with_reducible apply hnx; clear hnx nx)
    | (with_reducible refine And.intro (by omega) ?_)
    | (with_reducible refine And.intro ?_ ?_)
    | (clear hnx nx; with_reducible apply hnx; clear hnx nx)
    | (clear hnx nx; clear hnx nx; with_reducible apply hnx; clear hnx nx)
    | (clear hnx nx; clear hnx nx; clear hnx nx; with_reducible apply hnx; clear hnx nx))
      all_goals first
        | (exfalso
           omega)
        | skip
      refine hfin _ _ (Fin_ret1 rfl (Sub_refl (by simp [names])) ?_); simp only [List.getD_cons_zero, List.getD_cons_succ, fr_getD_cons, fr_getD_nil, Nat.reduceEqDiff, Nat.reduceLT, ↓reduceIte]
      exact ⟨N, rfl, rfl⟩
theorem padKey_c (G : Globs) (hG : G 0 = .iptr (KS.map pw) 0) (key : List UInt8) (w : UInt8) (h1 : key.length ≤ 4294950000) : PCalls Tryd.prog G 32 [pstr key, pbyte w] [] (fun res H => res = .list 1 ((macP (k64 key) w).map pbyte) ∧ H = []) := RowB.frz (padKey_r G hG key w h1)

set_option maxRecDepth 100000 in
set_option maxHeartbeats 16000000 in
theorem rmac_c (G : Globs) (hG : G 0 = .iptr (KS.map pw) 0) (key text : List UInt8) (h1 : key.length ≤ 4294950000) (h2 : text.length ≤ 4294950000) : PCalls Tryd.prog G 19 [pstr key, pstr text] [] (fun res H => res = pstr (mac key text) ∧ H = []) := by
  have hk := k64_len key
  have l1 := macP_len (k64 key) 54 hk
  have l2 := macP_len (k64 key) 92 hk
  have p1 : PCalls Tryd.prog G 32 [pstr key, pint .u8 54] [] (RowB (macP (k64 key) 54)) := padKey_r G hG key 54 h1
  have p2 : PCalls Tryd.prog G 32 [pstr key, pint .u8 92] [] (RowB (macP (k64 key) 92)) := padKey_r G hG key 92 h1
  have hmac : mac key text = sha (macP (k64 key) 92 ++ sha (macP (k64 key) 54 ++ text)) := rfl
  generalize macP (k64 key) 54 = m1 at *
  generalize macP (k64 key) 92 = m2 at *
  have s1 := rsum_c G hG (m1 ++ text) (by rw [List.length_append]; omega)
  rw [List.map_append] at s1
  have l3 := sha_len (m1 ++ text)
  have c1 := b32_c G _ l3
  generalize sha (m1 ++ text) = s at *
  have s2 := rsum_c G hG (m2 ++ s) (by rw [List.length_append]; omega)
  rw [List.map_append] at s2
  have l4 := sha_len (m2 ++ s)
  have c2 := b32_c G _ l4
  generalize sha (m2 ++ s) = f at *
  rw [hmac]
  have b1 : bytes text = text.map pbyte := rfl
  have b2 : bytes s = s.map pbyte := rfl
  have k1 : List.take (m1.length + text.length) (m1.map pbyte ++ text.map pbyte) = m1.map pbyte ++ text.map pbyte := List.take_of_length_le (by simp)
  have k2 : List.take (m2.length + s.length) (m2.map pbyte ++ s.map pbyte) = m2.map pbyte ++ s.map pbyte := List.take_of_length_le (by simp)
  (refine PCalls_f Tryd.func19 rfl Tryd.ntmps19 Tryd.results19 (by simp) fun fin hfin => ?_; have hnm : True := trivial; simp (maxSteps := 2000000) (disch := omega) only [↓popG_eq, ↓pop.eq_1, ↓List.getElem?_map, ↓List.getElem?_cons_zero, ↓List.getElem?_cons_succ, pbuiltin, opnd, constPV, PState.put, fr_set, fr_getD_nil, fr_same, fr_other, layFrom, List.set, pnck, pguard_tt, pguard_tf, pguard_ft, pguard_ff, seqK, blockK, scopeK, List.map_cons, List.map_nil, List.getD_cons_zero, List.getD_cons_succ, List.getD_nil, List.getElem?_nil, Option.join_some, Option.join_none, pbin, pun, ppick, plen, pldop, pload, pfaddr, piaddr, pindex, pfield, pslice, pbound, pconv, pelems, pextract, pmm, parr, pbuild, pfill, PV.mem?, PV.one, PV.cells, pageq, peqs, peq1, palloc, pbox, pbuildS, pmakes, pstore, pappend, pcopy, pbytes, pmark, psrc, vcells, Value.oneCell', look, upd, del, names, Option.map_some, Option.map_none, List.length_cons, List.length_nil, List.all_cons, List.all_nil, Bool.and_true, Bool.true_and, Bool.not_true, Bool.not_false, List.take_zero, List.drop_zero, List.nil_append, List.cons_append, List.append_nil, Nat.reduceAdd, Nat.reduceMul, Nat.reduceSub, Nat.reduceLeDiff, Nat.reduceEqDiff, Nat.zero_add, Nat.add_zero, Nat.mul_one, Nat.zero_mul, List.drop_succ_cons, List.take_succ_cons, List.drop_nil, List.take_nil, ↓reduceIte, ne_eq, true_and, and_true, not_false_eq_true, reduceCtorEq, forall_const, List.toList_toArray, times, List.replicate_succ, List.replicate_zero, List.flatten_cons, List.flatten_nil, Value.cells, Int.toNat_natCast, Int.toNat_zero, Int.toNat_one, bl_mk, bl_lit, wr64, toNat_add1, toNat_sub1, map_getD, Int.natCast_nonneg, List.length_map, Bool.not_not, List.not_mem_nil, Option.some.injEq, exists_and_left, exists_eq_left', Int.cast_ofNat_Int, Int.natCast_zero, eq_self, List.size_toArray, Nat.reduceLT, Int.reduceLT, Int.reduceLE, Int.reduceToNat, Int.reduceAdd, Int.reduceSub, Int.reduceNeg, decide_true, decide_false, List.length_take, List.length_append, List.length_drop, hnm, Tryd.tf5, Tryd.tf9, Tryd.tf22, Tryd.tf24, Tryd.teq24, Tryd.teq30, Tryd.teq31, Tryd.teq43, Tryd.teq44, Tryd.teq48, Tryd.teq54, Tryd.teq63, Tryd.call12, Tryd.call20, Tryd.call32])
  repeat' (first
    | (with_reducible apply W_seq_k; intro nx hnx)
    | with_reducible apply W_block
    | with_reducible apply W_scope
    | (with_reducible refine W_prune 115 ?_; simp only [prune_cons, prune_nil, Nat.reducePow, Nat.reduceDiv, Nat.reduceMod, Nat.reduceBEq, cond_true, cond_false]; with_reducible apply W_region_l)
    | ((first | (with_reducible apply WL_op; intro nx hnx) | with_reducible refine Ev_out ?_ | (with_reducible refine pfresh_k hnm fun nm hnm => ?_; (try simp only [List.forall_mem_cons, List.not_mem_nil, false_implies, implies_true, and_true, true_and, ne_eq] at hnm))); try (simp (maxSteps := 2000000) (disch := omega) only [↓popG_eq, ↓pop.eq_1, ↓List.getElem?_map, ↓List.getElem?_cons_zero, ↓List.getElem?_cons_succ, pbuiltin, opnd, constPV, PState.put, fr_set, fr_getD_nil, fr_same, fr_other, layFrom, List.set, pnck, pguard_tt, pguard_tf, pguard_ft, pguard_ff, seqK, blockK, scopeK, List.map_cons, List.map_nil, List.getD_cons_zero, List.getD_cons_succ, List.getD_nil, List.getElem?_nil, Option.join_some, Option.join_none, pbin, pun, ppick, plen, pldop, pload, pfaddr, piaddr, pindex, pfield, pslice, pbound, pconv, pelems, pextract, pmm, parr, pbuild, pfill, PV.mem?, PV.one, PV.cells, pageq, peqs, peq1, palloc, pbox, pbuildS, pmakes, pstore, pappend, pcopy, pbytes, pmark, psrc, vcells, Value.oneCell', look, upd, del, names, Option.map_some, Option.map_none, List.length_cons, List.length_nil, List.all_cons, List.all_nil, Bool.and_true, Bool.true_and, Bool.not_true, Bool.not_false, List.take_zero, List.drop_zero, List.nil_append, List.cons_append, List.append_nil, Nat.reduceAdd, Nat.reduceMul, Nat.reduceSub, Nat.reduceLeDiff, Nat.reduceEqDiff, Nat.zero_add, Nat.add_zero, Nat.mul_one, Nat.zero_mul, List.drop_succ_cons, List.take_succ_cons, List.drop_nil, List.take_nil, ↓reduceIte, ne_eq, true_and, and_true, not_false_eq_true, reduceCtorEq, forall_const, List.toList_toArray, times, List.replicate_succ, List.replicate_zero, List.flatten_cons, List.flatten_nil, Value.cells, Int.toNat_natCast, Int.toNat_zero, Int.toNat_one, bl_mk, bl_lit, wr64, toNat_add1, toNat_sub1, map_getD, Int.natCast_nonneg, List.length_map, Bool.not_not, List.not_mem_nil, Option.some.injEq, exists_and_left, exists_eq_left', Int.cast_ofNat_Int, Int.natCast_zero, eq_self, List.size_toArray, Nat.reduceLT, Int.reduceLT, Int.reduceLE, Int.reduceToNat, Int.reduceAdd, Int.reduceSub, Int.reduceNeg, decide_true, decide_false, List.length_take, List.length_append, List.length_drop, hnm, Tryd.tf5, Tryd.tf9, Tryd.tf22, Tryd.tf24, Tryd.teq24, Tryd.teq30, Tryd.teq31, Tryd.teq43, Tryd.teq44, Tryd.teq48, Tryd.teq54, Tryd.teq63, Tryd.call12, Tryd.call20, Tryd.call32]); repeat (refine And.intro (by omega) ?_))
    | ((first | with_reducible apply WL_nil | with_reducible apply W_label | with_reducible apply W_skip | with_reducible apply W_exit | with_reducible apply W_ret); try simp only [seqK, blockK, scopeK, ↓reduceIte, Nat.reduceEqDiff])
    | (with_reducible apply W_cond_k; intro _ _ ea eb; (simp only [condK, not_true_eq_false, not_false_eq_true, opnd, constPV, List.getD_cons_zero, List.getD_cons_succ, fr_getD_cons, fr_getD_nil, Nat.reduceEqDiff, Nat.reduceLT, ↓reduceIte, decide_eq_true_eq, decide_eq_false_iff_not, reduceCtorEq, false_implies, true_implies, and_true, true_and, Bool.not_eq_true, Bool.not_eq_false, forall_const, bne_iff_ne, bne_eq_false_iff_eq, beq_iff_eq, beq_eq_false_iff_ne, ne_eq, Decidable.not_not, Bool.not_eq_eq_eq_not, Bool.not_true, Bool.not_false, Bool.and_eq_true, Bool.or_eq_true, Int.natCast_inj, Bool.and_eq_false_iff, Bool.or_eq_false_iff]); subst ea eb; first | (refine ⟨fun hc => ?_, fun hc => ?_⟩ <;> first | (exfalso; omega) | (exfalso; exact hc trivial) | skip) | skip)
    | (with_reducible apply hnx; clear hnx nx)
    | (with_reducible refine And.intro (by omega) ?_)
    | (with_reducible refine And.intro ?_ ?_)
    | (clear hnx nx; with_reducible apply hnx; clear hnx nx)
    | (clear hnx nx; clear hnx nx; with_reducible apply hnx; clear hnx nx)
    | (clear hnx nx; clear hnx nx; clear hnx nx; with_reducible apply hnx; clear hnx nx))
  refine pcall_k p1 ?_
  rintro _ _ ⟨N1, rfl, rfl⟩ -
  refine Ev_in ?_
  repeat' (first
    | (with_reducible apply W_seq_k; intro nx hnx)
    | with_reducible apply W_block
    | with_reducible apply W_scope
    | (with_reducible refine W_prune 115 ?_; simp only [prune_cons, prune_nil, Nat.reducePow, Nat.reduceDiv, Nat.reduceMod, Nat.reduceBEq, cond_true, cond_false]; with_reducible apply W_region_l)
    | ((first | (with_reducible apply WL_op; intro nx hnx) | with_reducible refine Ev_out ?_ | (with_reducible refine pfresh_k hnm fun nm hnm => ?_; (try simp only [List.forall_mem_cons, List.not_mem_nil, false_implies, implies_true, and_true, true_and, ne_eq] at hnm))); try (simp (maxSteps := 2000000) (disch := omega) only [↓popG_eq, ↓pop.eq_1, ↓List.getElem?_map, ↓List.getElem?_cons_zero, ↓List.getElem?_cons_succ, pbuiltin, opnd, constPV, PState.put, fr_set, fr_getD_nil, fr_same, fr_other, layFrom, List.set, pnck, pguard_tt, pguard_tf, pguard_ft, pguard_ff, seqK, blockK, scopeK, List.map_cons, List.map_nil, List.getD_cons_zero, List.getD_cons_succ, List.getD_nil, List.getElem?_nil, Option.join_some, Option.join_none, pbin, pun, ppick, plen, pldop, pload, pfaddr, piaddr, pindex, pfield, pslice, pbound, pconv, pelems, pextract, pmm, parr, pbuild, pfill, PV.mem?, PV.one, PV.cells, pageq, peqs, peq1, palloc, pbox, pbuildS, pmakes, pstore, pappend, pcopy, pbytes, pmark, psrc, vcells, Value.oneCell', look, upd, del, names, Option.map_some, Option.map_none, List.length_cons, List.length_nil, List.all_cons, List.all_nil, Bool.and_true, Bool.true_and, Bool.not_true, Bool.not_false, List.take_zero, List.drop_zero, List.nil_append, List.cons_append, List.append_nil, Nat.reduceAdd, Nat.reduceMul, Nat.reduceSub, Nat.reduceLeDiff, Nat.reduceEqDiff, Nat.zero_add, Nat.add_zero, Nat.mul_one, Nat.zero_mul, List.drop_succ_cons, List.take_succ_cons, List.drop_nil, List.take_nil, ↓reduceIte, ne_eq, true_and, and_true, not_false_eq_true, reduceCtorEq, forall_const, List.toList_toArray, times, List.replicate_succ, List.replicate_zero, List.flatten_cons, List.flatten_nil, Value.cells, Int.toNat_natCast, Int.toNat_zero, Int.toNat_one, bl_mk, bl_lit, wr64, toNat_add1, toNat_sub1, map_getD, Int.natCast_nonneg, List.length_map, Bool.not_not, List.not_mem_nil, Option.some.injEq, exists_and_left, exists_eq_left', Int.cast_ofNat_Int, Int.natCast_zero, eq_self, List.size_toArray, Nat.reduceLT, Int.reduceLT, Int.reduceLE, Int.reduceToNat, Int.reduceAdd, Int.reduceSub, Int.reduceNeg, decide_true, decide_false, List.length_take, List.length_append, List.length_drop, hnm, Tryd.tf5, Tryd.tf9, Tryd.tf22, Tryd.tf24, Tryd.teq24, Tryd.teq30, Tryd.teq31, Tryd.teq43, Tryd.teq44, Tryd.teq48, Tryd.teq54, Tryd.teq63, Tryd.call12, Tryd.call20, Tryd.call32, flat_pb, b1, b2, bytes_length]); repeat (refine And.intro (by omega) ?_))
    | ((first | with_reducible apply WL_nil | with_reducible apply W_label | with_reducible apply W_skip | with_reducible apply W_exit | with_reducible apply W_ret); try simp only [seqK, blockK, scopeK, ↓reduceIte, Nat.reduceEqDiff])
    | (with_reducible apply W_cond_k; intro _ _ ea eb; (simp only [condK, not_true_eq_false, not_false_eq_true, opnd, constPV, List.getD_cons_zero, List.getD_cons_succ, fr_getD_cons, fr_getD_nil, Nat.reduceEqDiff, Nat.reduceLT, ↓reduceIte, decide_eq_true_eq, decide_eq_false_iff_not, reduceCtorEq, false_implies, true_implies, and_true, true_and, Bool.not_eq_true, Bool.not_eq_false, forall_const, bne_iff_ne, bne_eq_false_iff_eq, beq_iff_eq, beq_eq_false_iff_ne, ne_eq, Decidable.not_not, Bool.not_eq_eq_eq_not, Bool.not_true, Bool.not_false, Bool.and_eq_true, Bool.or_eq_true, Int.natCast_inj, Bool.and_eq_false_iff, Bool.or_eq_false_iff]); subst ea eb; first | (refine ⟨fun hc => ?_, fun hc => ?_⟩ <;> first | (exfalso; omega) | (exfalso; exact hc trivial) | skip) | skip)
    | (with_reducible apply hnx; clear hnx nx)
    | (with_reducible refine And.intro (by omega) ?_)
    | (with_reducible refine And.intro ?_ ?_)
    | (clear hnx nx; with_reducible apply hnx; clear hnx nx)
    | (clear hnx nx; clear hnx nx; with_reducible apply hnx; clear hnx nx)
    | (clear hnx nx; clear hnx nx; clear hnx nx; with_reducible apply hnx; clear hnx nx))
  all_goals first
    | exact rfl
    | (exfalso
       omega)
    | skip
  obtain ⟨M, hM⟩ : ∃ M, M = nm := ⟨_, rfl⟩
  subst hM
  refine pcall_k p2 ?_
  rintro _ _ ⟨N2, rfl, rfl⟩ hd
  have hd2 : ¬ N2 = M := by simpa [names] using hd
  clear hnm
  have hnm : ¬ N2 = M ∧ ¬ M = N2 := ⟨hd2, fun e => hd2 e.symm⟩
  refine Ev_in ?_
  repeat' (first
    | (with_reducible apply W_seq_k; intro nx hnx)
    | with_reducible apply W_block
    | with_reducible apply W_scope
    | (with_reducible refine W_prune 115 ?_; simp only [prune_cons, prune_nil, Nat.reducePow, Nat.reduceDiv, Nat.reduceMod, Nat.reduceBEq, cond_true, cond_false]; with_reducible apply W_region_l)
    | ((first | (with_reducible apply WL_op; intro nx hnx) | with_reducible refine Ev_out ?_ | (with_reducible refine pfresh_k hnm fun nm hnm => ?_; (try simp only [List.forall_mem_cons, List.not_mem_nil, false_implies, implies_true, and_true, true_and, ne_eq] at hnm))); try (simp (maxSteps := 2000000) (disch := omega) only [↓popG_eq, ↓pop.eq_1, ↓List.getElem?_map, ↓List.getElem?_cons_zero, ↓List.getElem?_cons_succ, pbuiltin, opnd, constPV, PState.put, fr_set, fr_getD_nil, fr_same, fr_other, layFrom, List.set, pnck, pguard_tt, pguard_tf, pguard_ft, pguard_ff, seqK, blockK, scopeK, List.map_cons, List.map_nil, List.getD_cons_zero, List.getD_cons_succ, List.getD_nil, List.getElem?_nil, Option.join_some, Option.join_none, pbin, pun, ppick, plen, pldop, pload, pfaddr, piaddr, pindex, pfield, pslice, pbound, pconv, pelems, pextract, pmm, parr, pbuild, pfill, PV.mem?, PV.one, PV.cells, pageq, peqs, peq1, palloc, pbox, pbuildS, pmakes, pstore, pappend, pcopy, pbytes, pmark, psrc, vcells, Value.oneCell', look, upd, del, names, Option.map_some, Option.map_none, List.length_cons, List.length_nil, List.all_cons, List.all_nil, Bool.and_true, Bool.true_and, Bool.not_true, Bool.not_false, List.take_zero, List.drop_zero, List.nil_append, List.cons_append, List.append_nil, Nat.reduceAdd, Nat.reduceMul, Nat.reduceSub, Nat.reduceLeDiff, Nat.reduceEqDiff, Nat.zero_add, Nat.add_zero, Nat.mul_one, Nat.zero_mul, List.drop_succ_cons, List.take_succ_cons, List.drop_nil, List.take_nil, ↓reduceIte, ne_eq, true_and, and_true, not_false_eq_true, reduceCtorEq, forall_const, List.toList_toArray, times, List.replicate_succ, List.replicate_zero, List.flatten_cons, List.flatten_nil, Value.cells, Int.toNat_natCast, Int.toNat_zero, Int.toNat_one, bl_mk, bl_lit, wr64, toNat_add1, toNat_sub1, map_getD, Int.natCast_nonneg, List.length_map, Bool.not_not, List.not_mem_nil, Option.some.injEq, exists_and_left, exists_eq_left', Int.cast_ofNat_Int, Int.natCast_zero, eq_self, List.size_toArray, Nat.reduceLT, Int.reduceLT, Int.reduceLE, Int.reduceToNat, Int.reduceAdd, Int.reduceSub, Int.reduceNeg, decide_true, decide_false, List.length_take, List.length_append, List.length_drop, hnm, Tryd.tf5, Tryd.tf9, Tryd.tf22, Tryd.tf24, Tryd.teq24, Tryd.teq30, Tryd.teq31, Tryd.teq43, Tryd.teq44, Tryd.teq48, Tryd.teq54, Tryd.teq63, Tryd.call12, Tryd.call20, Tryd.call32]); repeat (refine And.intro (by omega) ?_))
    | ((first | with_reducible apply WL_nil | with_reducible apply W_label | with_reducible apply W_skip | with_reducible apply W_exit | with_reducible apply W_ret); try simp only [seqK, blockK, scopeK, ↓reduceIte, Nat.reduceEqDiff])
    | (with_reducible apply W_cond_k; intro _ _ ea eb; (simp only [condK, not_true_eq_false, not_false_eq_true, opnd, constPV, List.getD_cons_zero, List.getD_cons_succ, fr_getD_cons, fr_getD_nil, Nat.reduceEqDiff, Nat.reduceLT, ↓reduceIte, decide_eq_true_eq, decide_eq_false_iff_not, reduceCtorEq, false_implies, true_implies, and_true, true_and, Bool.not_eq_true, Bool.not_eq_false, forall_const, bne_iff_ne, bne_eq_false_iff_eq, beq_iff_eq, beq_eq_false_iff_ne, ne_eq, Decidable.not_not, Bool.not_eq_eq_eq_not, Bool.not_true, Bool.not_false, Bool.and_eq_true, Bool.or_eq_true, Int.natCast_inj, Bool.and_eq_false_iff, Bool.or_eq_false_iff]); subst ea eb; first | (refine ⟨fun hc => ?_, fun hc => ?_⟩ <;> first | (exfalso; omega) | (exfalso; exact hc trivial) | skip) | skip)
    | (with_reducible apply hnx; clear hnx nx)
    | (with_reducible refine And.intro (by omega) ?_)
    | (with_reducible refine And.intro ?_ ?_)
    | (clear hnx nx; with_reducible apply hnx; clear hnx nx)
    | (clear hnx nx; clear hnx nx; with_reducible apply hnx; clear hnx nx)
    | (clear hnx nx; clear hnx nx; clear hnx nx; with_reducible apply hnx; clear hnx nx))
  refine pcall_lend M ⟨5, true, 1, m1.map pbyte ++ text.map pbyte⟩ (by simp [look, hnm]) (R := fun res H => res = .agg (s.map pbyte) ∧ H = []) ?_ ?_
  · simp only [List.map_cons, List.map_nil, frz1, ↓reduceIte, List.length_append, List.length_map, Nat.mul_one, Nat.le_refl, Nat.zero_lt_one, and_self]
    rw [elemsOf_one (by simp), k1]
    exact s1
  · rintro _ _ ⟨rfl, rfl⟩
    refine ⟨rfl, Flat_all (by
      intro c hc
      obtain ⟨w, _, rfl⟩ := List.mem_map.1 hc
      exact ⟨_, rfl⟩), ?_⟩
    refine Ev_in ?_
    repeat' (first
    | (with_reducible apply W_seq_k; intro nx hnx)
    | with_reducible apply W_block
    | with_reducible apply W_scope
    | (with_reducible refine W_prune 115 ?_; simp only [prune_cons, prune_nil, Nat.reducePow, Nat.reduceDiv, Nat.reduceMod, Nat.reduceBEq, cond_true, cond_false]; with_reducible apply W_region_l)
    | ((first | (with_reducible apply WL_op; intro nx hnx) | with_reducible refine Ev_out ?_ | (with_reducible refine pfresh_k hnm fun nm hnm => ?_; (try simp only [List.forall_mem_cons, List.not_mem_nil, false_implies, implies_true, and_true, true_and, ne_eq] at hnm))); try (simp (maxSteps := 2000000) (disch := omega) only [↓popG_eq, ↓pop.eq_1, ↓List.getElem?_map, ↓List.getElem?_cons_zero, ↓List.getElem?_cons_succ, pbuiltin, opnd, constPV, PState.put, fr_set, fr_getD_nil, fr_same, fr_other, layFrom, List.set, pnck, pguard_tt, pguard_tf, pguard_ft, pguard_ff, seqK, blockK, scopeK, List.map_cons, List.map_nil, List.getD_cons_zero, List.getD_cons_succ, List.getD_nil, List.getElem?_nil, Option.join_some, Option.join_none, pbin, pun, ppick, plen, pldop, pload, pfaddr, piaddr, pindex, pfield, pslice, pbound, pconv, pelems, pextract, pmm, parr, pbuild, pfill, PV.mem?, PV.one, PV.cells, pageq, peqs, peq1, palloc, pbox, pbuildS, pmakes, pstore, pappend, pcopy, pbytes, pmark, psrc, vcells, Value.oneCell', look, upd, del, names, Option.map_some, Option.map_none, List.length_cons, List.length_nil, List.all_cons, List.all_nil, Bool.and_true, Bool.true_and, Bool.not_true, Bool.not_false, List.take_zero, List.drop_zero, List.nil_append, List.cons_append, List.append_nil, Nat.reduceAdd, Nat.reduceMul, Nat.reduceSub, Nat.reduceLeDiff, Nat.reduceEqDiff, Nat.zero_add, Nat.add_zero, Nat.mul_one, Nat.zero_mul, List.drop_succ_cons, List.take_succ_cons, List.drop_nil, List.take_nil, ↓reduceIte, ne_eq, true_and, and_true, not_false_eq_true, reduceCtorEq, forall_const, List.toList_toArray, times, List.replicate_succ, List.replicate_zero, List.flatten_cons, List.flatten_nil, Value.cells, Int.toNat_natCast, Int.toNat_zero, Int.toNat_one, bl_mk, bl_lit, wr64, toNat_add1, toNat_sub1, map_getD, Int.natCast_nonneg, List.length_map, Bool.not_not, List.not_mem_nil, Option.some.injEq, exists_and_left, exists_eq_left', Int.cast_ofNat_Int, Int.natCast_zero, eq_self, List.size_toArray, Nat.reduceLT, Int.reduceLT, Int.reduceLE, Int.reduceToNat, Int.reduceAdd, Int.reduceSub, Int.reduceNeg, decide_true, decide_false, List.length_take, List.length_append, List.length_drop, hnm, Tryd.tf5, Tryd.tf9, Tryd.tf22, Tryd.tf24, Tryd.teq24, Tryd.teq30, Tryd.teq31, Tryd.teq43, Tryd.teq44, Tryd.teq48, Tryd.teq54, Tryd.teq63, Tryd.call12, Tryd.call20, Tryd.call32, flat_pb, b1, b2, bytes_length]); repeat (refine And.intro (by omega) ?_))
    | ((first | with_reducible apply WL_nil | with_reducible apply W_label | with_reducible apply W_skip | with_reducible apply W_exit | with_reducible apply W_ret); try simp only [seqK, blockK, scopeK, ↓reduceIte, Nat.reduceEqDiff])
    | (with_reducible apply W_cond_k; intro _ _ ea eb; (simp only [condK, not_true_eq_false, not_false_eq_true, opnd, constPV, List.getD_cons_zero, List.getD_cons_succ, fr_getD_cons, fr_getD_nil, Nat.reduceEqDiff, Nat.reduceLT, ↓reduceIte, decide_eq_true_eq, decide_eq_false_iff_not, reduceCtorEq, false_implies, true_implies, and_true, true_and, Bool.not_eq_true, Bool.not_eq_false, forall_const, bne_iff_ne, bne_eq_false_iff_eq, beq_iff_eq, beq_eq_false_iff_ne, ne_eq, Decidable.not_not, Bool.not_eq_eq_eq_not, Bool.not_true, Bool.not_false, Bool.and_eq_true, Bool.or_eq_true, Int.natCast_inj, Bool.and_eq_false_iff, Bool.or_eq_false_iff]); subst ea eb; first | (refine ⟨fun hc => ?_, fun hc => ?_⟩ <;> first | (exfalso; omega) | (exfalso; exact hc trivial) | skip) | skip)
    | (with_reducible apply hnx; clear hnx nx)
    | (with_reducible refine And.intro (by omega) ?_)
    | (with_reducible refine And.intro ?_ ?_)
    | (with_reducible refine pcall_k (c1) ?_; rintro _ _ ⟨rfl, rfl⟩ -; refine Ev_in ?_)
    | (clear hnx nx; with_reducible apply hnx; clear hnx nx)
    | (clear hnx nx; clear hnx nx; with_reducible apply hnx; clear hnx nx)
    | (clear hnx nx; clear hnx nx; clear hnx nx; with_reducible apply hnx; clear hnx nx))
    all_goals first
      | exact rfl
      | (exfalso
         omega)
      | skip
    obtain ⟨M2, hM2⟩ : ∃ M, M = nm := ⟨_, rfl⟩
    subst hM2
    refine pcall_lend M2 ⟨5, true, 1, m2.map pbyte ++ s.map pbyte⟩ (by simp [look, hnm]) (R := fun res H => res = .agg (f.map pbyte) ∧ H = []) ?_ ?_
    · simp only [List.map_cons, List.map_nil, frz1, ↓reduceIte, List.length_append, List.length_map, Nat.mul_one, Nat.le_refl, Nat.zero_lt_one, and_self]
      rw [elemsOf_one (by simp), k2]
      exact s2
    · rintro _ _ ⟨rfl, rfl⟩
      refine ⟨rfl, Flat_all (by
        intro c hc
        obtain ⟨w, _, rfl⟩ := List.mem_map.1 hc
        exact ⟨_, rfl⟩), ?_⟩
      refine Ev_in ?_
      repeat' (first
    | (with_reducible apply W_seq_k; intro nx hnx)
    | with_reducible apply W_block
    | with_reducible apply W_scope
    | (with_reducible refine W_prune 115 ?_; simp only [prune_cons, prune_nil, Nat.reducePow, Nat.reduceDiv, Nat.reduceMod, Nat.reduceBEq, cond_true, cond_false]; with_reducible apply W_region_l)
    | ((first | (with_reducible apply WL_op; intro nx hnx) | with_reducible refine Ev_out ?_ | (with_reducible refine pfresh_k hnm fun nm hnm => ?_; (try simp only [List.forall_mem_cons, List.not_mem_nil, false_implies, implies_true, and_true, true_and, ne_eq] at hnm))); try (simp (maxSteps := 2000000) (disch := omega) only [↓popG_eq, ↓pop.eq_1, ↓List.getElem?_map, ↓List.getElem?_cons_zero, ↓List.getElem?_cons_succ, pbuiltin, opnd, constPV, PState.put, fr_set, fr_getD_nil, fr_same, fr_other, layFrom, List.set, pnck, pguard_tt, pguard_tf, pguard_ft, pguard_ff, seqK, blockK, scopeK, List.map_cons, List.map_nil, List.getD_cons_zero, List.getD_cons_succ, List.getD_nil, List.getElem?_nil, Option.join_some, Option.join_none, pbin, pun, ppick, plen, pldop, pload, pfaddr, piaddr, pindex, pfield, pslice, pbound, pconv, pelems, pextract, pmm, parr, pbuild, pfill, PV.mem?, PV.one, PV.cells, pageq, peqs, peq1, palloc, pbox, pbuildS, pmakes, pstore, pappend, pcopy, pbytes, pmark, psrc, vcells, Value.oneCell', look, upd, del, names, Option.map_some, Option.map_none, List.length_cons, List.length_nil, List.all_cons, List.all_nil, Bool.and_true, Bool.true_and, Bool.not_true, Bool.not_false, List.take_zero, List.drop_zero, List.nil_append, List.cons_append, List.append_nil, Nat.reduceAdd, Nat.reduceMul, Nat.reduceSub, Nat.reduceLeDiff, Nat.reduceEqDiff, Nat.zero_add, Nat.add_zero, Nat.mul_one, Nat.zero_mul, List.drop_succ_cons, List.take_succ_cons, List.drop_nil, List.take_nil, ↓reduceIte, ne_eq, true_and, and_true, not_false_eq_true, reduceCtorEq, forall_const, List.toList_toArray, times, List.replicate_succ, List.replicate_zero, List.flatten_cons, List.flatten_nil, Value.cells, Int.toNat_natCast, Int.toNat_zero, Int.toNat_one, bl_mk, bl_lit, wr64, toNat_add1, toNat_sub1, map_getD, Int.natCast_nonneg, List.length_map, Bool.not_not, List.not_mem_nil, Option.some.injEq, exists_and_left, exists_eq_left', Int.cast_ofNat_Int, Int.natCast_zero, eq_self, List.size_toArray, Nat.reduceLT, Int.reduceLT, Int.reduceLE, Int.reduceToNat, Int.reduceAdd, Int.reduceSub, Int.reduceNeg, decide_true, decide_false, List.length_take, List.length_append, List.length_drop, hnm, Tryd.tf5, Tryd.tf9, Tryd.tf22, Tryd.tf24, Tryd.teq24, Tryd.teq30, Tryd.teq31, Tryd.teq43, Tryd.teq44, Tryd.teq48, Tryd.teq54, Tryd.teq63, Tryd.call12, Tryd.call20, Tryd.call32, flat_pb]); repeat (refine And.intro (by omega) ?_))
    | ((first | with_reducible apply WL_nil | with_reducible apply W_label | with_reducible apply W_skip | with_reducible apply W_exit | with_reducible apply W_ret); try simp only [seqK, blockK, scopeK, ↓reduceIte, Nat.reduceEqDiff])
    | (with_reducible apply W_cond_k; intro _ _ ea eb; (simp only [condK, not_true_eq_false, not_false_eq_true, opnd, constPV, List.getD_cons_zero, List.getD_cons_succ, fr_getD_cons, fr_getD_nil, Nat.reduceEqDiff, Nat.reduceLT, ↓reduceIte, decide_eq_true_eq, decide_eq_false_iff_not, reduceCtorEq, false_implies, true_implies, and_true, true_and, Bool.not_eq_true, Bool.not_eq_false, forall_const, bne_iff_ne, bne_eq_false_iff_eq, beq_iff_eq, beq_eq_false_iff_ne, ne_eq, Decidable.not_not, Bool.not_eq_eq_eq_not, Bool.not_true, Bool.not_false, Bool.and_eq_true, Bool.or_eq_true, Int.natCast_inj, Bool.and_eq_false_iff, Bool.or_eq_false_iff]); subst ea eb; first | (refine ⟨fun hc => ?_, fun hc => ?_⟩ <;> first | (exfalso; omega) | (exfalso; exact hc trivial) | skip) | skip)
    | (with_reducible apply hnx; clear hnx nx)
    | (with_reducible refine And.intro (by omega) ?_)
    | (with_reducible refine And.intro ?_ ?_)
    | (with_reducible refine pcall_k (c2) ?_; rintro _ _ ⟨rfl, rfl⟩ -; refine Ev_in ?_)
    | (clear hnx nx; with_reducible apply hnx; clear hnx nx)
    | (clear hnx nx; clear hnx nx; with_reducible apply hnx; clear hnx nx)
    | (clear hnx nx; clear hnx nx; clear hnx nx; with_reducible apply hnx; clear hnx nx))
      all_goals first
        | exact rfl
        | (exfalso
           omega)
        | (refine hfin _ _ (Fin_ret1 rfl (Sub_nil _) ?_); simp only [List.getD_cons_zero, List.getD_cons_succ, fr_getD_cons, fr_getD_nil, Nat.reduceEqDiff, Nat.reduceLT, ↓reduceIte]; first | trivial | exact ⟨rfl, by trivial⟩ | (simp; done) | (simp; omega))
end Go.PM
