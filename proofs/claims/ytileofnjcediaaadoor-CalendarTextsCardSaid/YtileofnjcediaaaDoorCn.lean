/- Contracts: the reference's reading of a span. Conditions: none but those that each names. -/
import Derived.Test.YtileofnjcediaaaDoorCm
set_option linter.unusedSimpArgs false
set_option linter.unusedVariables false
namespace Go.PM
open Go.Proofs
attribute [local irreducible] W PCalls pcall pcallI WL

theorem byte47 (c : UInt8) : ((c.toNat : Int) == 47) = decide (c = 47) := by
  rw [Bool.eq_iff_iff, beq_iff_eq, decide_eq_true_eq]
  exact ⟨fun h => UInt8.toNat_inj.1 (Int.ofNat_inj.1 h), fun h => by rw [h]; rfl⟩
theorem byte99 (c : UInt8) : ((c.toNat : Int) == 99) = decide (c = 99) := by
  rw [Bool.eq_iff_iff, beq_iff_eq, decide_eq_true_eq]
  exact ⟨fun h => UInt8.toNat_inj.1 (Int.ofNat_inj.1 h), fun h => by rw [h]; rfl⟩
theorem nat99 {c : UInt8} : (c.toNat : Int) = 99 ↔ c = 99 := ⟨fun h => UInt8.toNat_inj.1 (Int.ofNat_inj.1 h), fun h => by rw [h]; rfl⟩
theorem nat47 {c : UInt8} : (c.toNat : Int) = 47 ↔ c = 47 := ⟨fun h => UInt8.toNat_inj.1 (Int.ofNat_inj.1 h), fun h => by rw [h]; rfl⟩
theorem take1_c (s : List UInt8) (h : 1 ≤ s.length) : s.take 1 = [99] ↔ s.getD 0 0 = 99 := by
  cases s with
  | nil => simp at h
  | cons c r => simp
/-- whatever begins with a 'c' and is not of five bytes has no form -/
theorem parseP_c (s : List UInt8) (h : s.take 1 = [99]) (h5 : ¬ s.length = 5) : parseP s = (if posL s < s.length then bothP (dateP (s.take (posL s))) (dateP (s.drop (posL s + 1))) else dateP s) := by
  obtain ⟨h1, h2, h3⟩ := c_first s h
  rw [parseP, if_pos h, aboutP, if_pos (Or.inr (by rw [List.length_drop]; omega))]
  split
  · rw [dateP_no (s.take (posL s)) (form_c _ (by rw [List.take_take, Nat.min_eq_left h1]; exact h)), bothP_bad]
  · rw [dateP_no s (form_c s h)]

set_option maxRecDepth 100000 in
set_option maxHeartbeats 8000000 in
theorem rparse_c (G : Globs) (s : List UInt8) (hs : (s.length : Int) ≤ 9223372036854775807) : PCalls Tryd.prog G 18 [pstr s] [] (fun res H => res = resP (parseP s) ∧ H = []) := by
  have q99 := byte99 (s.getD 0 0)
  by_cases hc : s.length = 5 ∧ s.take 1 = [99]
  · obtain ⟨h5, hc⟩ := hc
    have hg := (c_first s hc).2.1
    rw [hg] at q99
    rw [parseP, if_pos hc]
    obtain ⟨r, hr⟩ : ∃ r, r = s.drop 1 := ⟨_, rfl⟩
    have hr2 : List.drop 1 (List.take s.length s) = r := by rw [List.take_length, hr]
    have hrl : r.length = 4 := by rw [hr, List.length_drop]; omega
    rw [← hr]
    have y0 := numF_four r (by omega)
    have c1 := rnumber_c G r (by omega)
    rw [aboutP]
    by_cases hb : digB r = false
    · rw [if_pos (Or.inl hb)]
      rw [hb] at c1
      (refine PCalls_f Tryd.func18 rfl Tryd.ntmps18 Tryd.results18 (by simp) fun fin hfin => ?_; have hnm : True := trivial; simp (maxSteps := 2000000) (disch := omega) only [↓popG_eq, ↓pop.eq_1, ↓List.getElem?_map, ↓List.getElem?_cons_zero, ↓List.getElem?_cons_succ, pbuiltin, opnd, constPV, PState.put, fr_set, fr_getD_nil, fr_same, fr_other, layFrom, List.set, pnck, pguard_tt, pguard_tf, pguard_ft, pguard_ff, seqK, blockK, scopeK, List.map_cons, List.map_nil, List.getD_cons_zero, List.getD_cons_succ, List.getD_nil, List.getElem?_nil, Option.join_some, Option.join_none, pbin, pun, ppick, plen, pldop, pload, pfaddr, piaddr, pindex, pfield, pslice, pbound, pconv, pelems, pextract, pmm, parr, pbuild, pfill, PV.mem?, PV.one, PV.cells, pageq, peqs, peq1, palloc, pbox, pbuildS, pmakes, pstore, pappend, pcopy, pbytes, pmark, psrc, vcells, Value.oneCell', look, upd, del, names, Option.map_some, Option.map_none, List.length_cons, List.length_nil, List.all_cons, List.all_nil, Bool.and_true, Bool.true_and, Bool.not_true, Bool.not_false, List.take_zero, List.drop_zero, List.nil_append, List.cons_append, List.append_nil, Nat.reduceAdd, Nat.reduceMul, Nat.reduceSub, Nat.reduceLeDiff, Nat.reduceEqDiff, Nat.zero_add, Nat.add_zero, Nat.mul_one, Nat.zero_mul, List.drop_succ_cons, List.take_succ_cons, List.drop_nil, List.take_nil, ↓reduceIte, ne_eq, true_and, and_true, not_false_eq_true, reduceCtorEq, forall_const, List.toList_toArray, times, List.replicate_succ, List.replicate_zero, List.flatten_cons, List.flatten_nil, Value.cells, Int.toNat_natCast, Int.toNat_zero, Int.toNat_one, bl_mk, bl_lit, wr64, toNat_add1, toNat_sub1, map_getD, Int.natCast_nonneg, List.length_map, Bool.not_not, List.not_mem_nil, Option.some.injEq, exists_and_left, exists_eq_left', Int.cast_ofNat_Int, Int.natCast_zero, eq_self, List.size_toArray, Nat.reduceLT, Int.reduceLT, Int.reduceLE, Int.reduceToNat, Int.reduceAdd, Int.reduceSub, Int.reduceNeg, decide_true, decide_false, List.length_take, List.length_append, List.length_drop, hnm, Tryd.tf0, Tryd.tf1, Tryd.tf3, Tryd.tf4, Tryd.tf5, Tryd.tf9, Tryd.tf22, Tryd.tf30, Tryd.teq30, Tryd.tf31, Tryd.teq57, Tryd.teq58, Tryd.tf65, Tryd.teq79, Tryd.teq80, Tryd.teq86, Tryd.teq88, Tryd.teq96, Tryd.teq98, Tryd.call39, Tryd.call46, Tryd.call47])
      repeat' (first
    | (with_reducible apply W_seq_k; intro nx hnx)
    | with_reducible apply W_block
    | with_reducible apply W_scope
    | (with_reducible refine W_prune 2045 ?_; simp only [prune_cons, prune_nil, Nat.reducePow, Nat.reduceDiv, Nat.reduceMod, Nat.reduceBEq, cond_true, cond_false]; with_reducible apply W_region_l)
    | ((first | (with_reducible apply WL_op; intro nx hnx) | with_reducible refine Ev_out ?_ | (with_reducible refine pfresh_k hnm fun nm hnm => ?_; (try simp only [List.forall_mem_cons, List.not_mem_nil, false_implies, implies_true, and_true, true_and, ne_eq] at hnm))); try (simp (maxSteps := 2000000) (disch := omega) only [↓popG_eq, ↓pop.eq_1, ↓List.getElem?_map, ↓List.getElem?_cons_zero, ↓List.getElem?_cons_succ, pbuiltin, opnd, constPV, PState.put, fr_set, fr_getD_nil, fr_same, fr_other, layFrom, List.set, pnck, pguard_tt, pguard_tf, pguard_ft, pguard_ff, seqK, blockK, scopeK, List.map_cons, List.map_nil, List.getD_cons_zero, List.getD_cons_succ, List.getD_nil, List.getElem?_nil, Option.join_some, Option.join_none, pbin, pun, ppick, plen, pldop, pload, pfaddr, piaddr, pindex, pfield, pslice, pbound, pconv, pelems, pextract, pmm, parr, pbuild, pfill, PV.mem?, PV.one, PV.cells, pageq, peqs, peq1, palloc, pbox, pbuildS, pmakes, pstore, pappend, pcopy, pbytes, pmark, psrc, vcells, Value.oneCell', look, upd, del, names, Option.map_some, Option.map_none, List.length_cons, List.length_nil, List.all_cons, List.all_nil, Bool.and_true, Bool.true_and, Bool.not_true, Bool.not_false, List.take_zero, List.drop_zero, List.nil_append, List.cons_append, List.append_nil, Nat.reduceAdd, Nat.reduceMul, Nat.reduceSub, Nat.reduceLeDiff, Nat.reduceEqDiff, Nat.zero_add, Nat.add_zero, Nat.mul_one, Nat.zero_mul, List.drop_succ_cons, List.take_succ_cons, List.drop_nil, List.take_nil, ↓reduceIte, ne_eq, true_and, and_true, not_false_eq_true, reduceCtorEq, forall_const, List.toList_toArray, times, List.replicate_succ, List.replicate_zero, List.flatten_cons, List.flatten_nil, Value.cells, Int.toNat_natCast, Int.toNat_zero, Int.toNat_one, bl_mk, bl_lit, wr64, toNat_add1, toNat_sub1, map_getD, Int.natCast_nonneg, List.length_map, Bool.not_not, List.not_mem_nil, Option.some.injEq, exists_and_left, exists_eq_left', Int.cast_ofNat_Int, Int.natCast_zero, eq_self, List.size_toArray, Nat.reduceLT, Int.reduceLT, Int.reduceLE, Int.reduceToNat, Int.reduceAdd, Int.reduceSub, Int.reduceNeg, decide_true, decide_false, List.length_take, List.length_append, List.length_drop, hnm, Tryd.tf0, Tryd.tf1, Tryd.tf3, Tryd.tf4, Tryd.tf5, Tryd.tf9, Tryd.tf22, Tryd.tf30, Tryd.teq30, Tryd.tf31, Tryd.teq57, Tryd.teq58, Tryd.tf65, Tryd.teq79, Tryd.teq80, Tryd.teq86, Tryd.teq88, Tryd.teq96, Tryd.teq98, Tryd.call39, Tryd.call46, Tryd.call47, hg, hr2]); repeat (refine And.intro (by omega) ?_))
    | ((first | with_reducible apply WL_nil | with_reducible apply W_label | with_reducible apply W_skip | with_reducible apply W_exit | with_reducible apply W_ret); try simp only [seqK, blockK, scopeK, ↓reduceIte, Nat.reduceEqDiff])
    | (with_reducible apply pguard_intro <;> (intro hc; (try simp only [decide_eq_true_eq, decide_eq_false_iff_not, reduceCtorEq, false_implies, true_implies, and_true, true_and, Bool.not_eq_true, Bool.not_eq_false, forall_const, bne_iff_ne, bne_eq_false_iff_eq, beq_iff_eq, beq_eq_false_iff_ne, ne_eq, Decidable.not_not, Bool.not_eq_eq_eq_not, Bool.not_true, Bool.not_false, Bool.and_eq_true, Bool.or_eq_true, Int.natCast_inj, Bool.and_eq_false_iff, Bool.or_eq_false_iff] at hc); first | (exfalso; omega) | (exfalso; exact hc trivial) | refine Ev_in ?_))
    | (with_reducible apply W_cond_k; intro _ _ ea eb; (simp only [condK, not_true_eq_false, not_false_eq_true, opnd, constPV, List.getD_cons_zero, List.getD_cons_succ, fr_getD_cons, fr_getD_nil, Nat.reduceEqDiff, Nat.reduceLT, ↓reduceIte, decide_eq_true_eq, decide_eq_false_iff_not, reduceCtorEq, false_implies, true_implies, and_true, true_and, Bool.not_eq_true, Bool.not_eq_false, forall_const, bne_iff_ne, bne_eq_false_iff_eq, beq_iff_eq, beq_eq_false_iff_ne, ne_eq, Decidable.not_not, Bool.not_eq_eq_eq_not, Bool.not_true, Bool.not_false, Bool.and_eq_true, Bool.or_eq_true, Int.natCast_inj, Bool.and_eq_false_iff, Bool.or_eq_false_iff]); subst ea eb; first | (refine ⟨fun hc => ?_, fun hc => ?_⟩ <;> first | (exfalso; omega) | (exfalso; exact hc trivial) | skip) | skip)
    | (with_reducible apply hnx; clear hnx nx)
    | (with_reducible refine And.intro (by omega) ?_)
    | (with_reducible refine And.intro ?_ ?_)
    | (with_reducible refine pcall_k (c1) ?_; rintro _ _ ⟨rfl, rfl⟩ -; refine Ev_in ?_)
    | (clear hnx nx; with_reducible apply hnx; clear hnx nx)
    | (clear hnx nx; clear hnx nx; with_reducible apply hnx; clear hnx nx)
    | (clear hnx nx; clear hnx nx; clear hnx nx; with_reducible apply hnx; clear hnx nx))
      all_goals first
        | (exfalso
           omega)
        | exact absurd rfl (by assumption)
        | (refine hfin _ _ (Fin_span2 (by (try simp only [fr_getD_cons, Nat.reduceEqDiff, Nat.reduceLT, ↓reduceIte]); first | done | rfl) (by (try simp only [look, hnm, ↓reduceIte]); first | done | rfl) rfl ?_); simp only [List.getD_cons_zero, List.getD_cons_succ, fr_getD_cons, fr_getD_nil, Nat.reduceEqDiff, Nat.reduceLT, ↓reduceIte]; first | trivial | exact ⟨rfl, by trivial⟩ | (simp; done) | (simp; omega))
    · have h2 : digB r = true := by cases h : digB r <;> simp_all
      rw [if_neg (by rintro (h | h); exact hb h; exact h hrl)]
      rw [h2] at c1
      generalize numF r = y at *
      by_cases hy : y < 1 ∨ 2800 < y
      · rw [if_pos hy]
        (refine PCalls_f Tryd.func18 rfl Tryd.ntmps18 Tryd.results18 (by simp) fun fin hfin => ?_; have hnm : True := trivial; simp (maxSteps := 2000000) (disch := omega) only [↓popG_eq, ↓pop.eq_1, ↓List.getElem?_map, ↓List.getElem?_cons_zero, ↓List.getElem?_cons_succ, pbuiltin, opnd, constPV, PState.put, fr_set, fr_getD_nil, fr_same, fr_other, layFrom, List.set, pnck, pguard_tt, pguard_tf, pguard_ft, pguard_ff, seqK, blockK, scopeK, List.map_cons, List.map_nil, List.getD_cons_zero, List.getD_cons_succ, List.getD_nil, List.getElem?_nil, Option.join_some, Option.join_none, pbin, pun, ppick, plen, pldop, pload, pfaddr, piaddr, pindex, pfield, pslice, pbound, pconv, pelems, pextract, pmm, parr, pbuild, pfill, PV.mem?, PV.one, PV.cells, pageq, peqs, peq1, palloc, pbox, pbuildS, pmakes, pstore, pappend, pcopy, pbytes, pmark, psrc, vcells, Value.oneCell', look, upd, del, names, Option.map_some, Option.map_none, List.length_cons, List.length_nil, List.all_cons, List.all_nil, Bool.and_true, Bool.true_and, Bool.not_true, Bool.not_false, List.take_zero, List.drop_zero, List.nil_append, List.cons_append, List.append_nil, Nat.reduceAdd, Nat.reduceMul, Nat.reduceSub, Nat.reduceLeDiff, Nat.reduceEqDiff, Nat.zero_add, Nat.add_zero, Nat.mul_one, Nat.zero_mul, List.drop_succ_cons, List.take_succ_cons, List.drop_nil, List.take_nil, ↓reduceIte, ne_eq, true_and, and_true, not_false_eq_true, reduceCtorEq, forall_const, List.toList_toArray, times, List.replicate_succ, List.replicate_zero, List.flatten_cons, List.flatten_nil, Value.cells, Int.toNat_natCast, Int.toNat_zero, Int.toNat_one, bl_mk, bl_lit, wr64, toNat_add1, toNat_sub1, map_getD, Int.natCast_nonneg, List.length_map, Bool.not_not, List.not_mem_nil, Option.some.injEq, exists_and_left, exists_eq_left', Int.cast_ofNat_Int, Int.natCast_zero, eq_self, List.size_toArray, Nat.reduceLT, Int.reduceLT, Int.reduceLE, Int.reduceToNat, Int.reduceAdd, Int.reduceSub, Int.reduceNeg, decide_true, decide_false, List.length_take, List.length_append, List.length_drop, hnm, Tryd.tf0, Tryd.tf1, Tryd.tf3, Tryd.tf4, Tryd.tf5, Tryd.tf9, Tryd.tf22, Tryd.tf30, Tryd.teq30, Tryd.tf31, Tryd.teq57, Tryd.teq58, Tryd.tf65, Tryd.teq79, Tryd.teq80, Tryd.teq86, Tryd.teq88, Tryd.teq96, Tryd.teq98, Tryd.call39, Tryd.call46, Tryd.call47])
        repeat' (first
    | (with_reducible apply W_seq_k; intro nx hnx)
    | with_reducible apply W_block
    | with_reducible apply W_scope
    | (with_reducible refine W_prune 2045 ?_; simp only [prune_cons, prune_nil, Nat.reducePow, Nat.reduceDiv, Nat.reduceMod, Nat.reduceBEq, cond_true, cond_false]; with_reducible apply W_region_l)
    | ((first | (with_reducible apply WL_op; intro nx hnx) | with_reducible refine Ev_out ?_ | (with_reducible refine pfresh_k hnm fun nm hnm => ?_; (try simp only [List.forall_mem_cons, List.not_mem_nil, false_implies, implies_true, and_true, true_and, ne_eq] at hnm))); try (simp (maxSteps := 2000000) (disch := omega) only [↓popG_eq, ↓pop.eq_1, ↓List.getElem?_map, ↓List.getElem?_cons_zero, ↓List.getElem?_cons_succ, pbuiltin, opnd, constPV, PState.put, fr_set, fr_getD_nil, fr_same, fr_other, layFrom, List.set, pnck, pguard_tt, pguard_tf, pguard_ft, pguard_ff, seqK, blockK, scopeK, List.map_cons, List.map_nil, List.getD_cons_zero, List.getD_cons_succ, List.getD_nil, List.getElem?_nil, Option.join_some, Option.join_none, pbin, pun, ppick, plen, pldop, pload, pfaddr, piaddr, pindex, pfield, pslice, pbound, pconv, pelems, pextract, pmm, parr, pbuild, pfill, PV.mem?, PV.one, PV.cells, pageq, peqs, peq1, palloc, pbox, pbuildS, pmakes, pstore, pappend, pcopy, pbytes, pmark, psrc, vcells, Value.oneCell', look, upd, del, names, Option.map_some, Option.map_none, List.length_cons, List.length_nil, List.all_cons, List.all_nil, Bool.and_true, Bool.true_and, Bool.not_true, Bool.not_false, List.take_zero, List.drop_zero, List.nil_append, List.cons_append, List.append_nil, Nat.reduceAdd, Nat.reduceMul, Nat.reduceSub, Nat.reduceLeDiff, Nat.reduceEqDiff, Nat.zero_add, Nat.add_zero, Nat.mul_one, Nat.zero_mul, List.drop_succ_cons, List.take_succ_cons, List.drop_nil, List.take_nil, ↓reduceIte, ne_eq, true_and, and_true, not_false_eq_true, reduceCtorEq, forall_const, List.toList_toArray, times, List.replicate_succ, List.replicate_zero, List.flatten_cons, List.flatten_nil, Value.cells, Int.toNat_natCast, Int.toNat_zero, Int.toNat_one, bl_mk, bl_lit, wr64, toNat_add1, toNat_sub1, map_getD, Int.natCast_nonneg, List.length_map, Bool.not_not, List.not_mem_nil, Option.some.injEq, exists_and_left, exists_eq_left', Int.cast_ofNat_Int, Int.natCast_zero, eq_self, List.size_toArray, Nat.reduceLT, Int.reduceLT, Int.reduceLE, Int.reduceToNat, Int.reduceAdd, Int.reduceSub, Int.reduceNeg, decide_true, decide_false, List.length_take, List.length_append, List.length_drop, hnm, Tryd.tf0, Tryd.tf1, Tryd.tf3, Tryd.tf4, Tryd.tf5, Tryd.tf9, Tryd.tf22, Tryd.tf30, Tryd.teq30, Tryd.tf31, Tryd.teq57, Tryd.teq58, Tryd.tf65, Tryd.teq79, Tryd.teq80, Tryd.teq86, Tryd.teq88, Tryd.teq96, Tryd.teq98, Tryd.call39, Tryd.call46, Tryd.call47, hg, hr2]); repeat (refine And.intro (by omega) ?_))
    | ((first | with_reducible apply WL_nil | with_reducible apply W_label | with_reducible apply W_skip | with_reducible apply W_exit | with_reducible apply W_ret); try simp only [seqK, blockK, scopeK, ↓reduceIte, Nat.reduceEqDiff])
    | (with_reducible apply pguard_intro <;> (intro hc; (try simp only [decide_eq_true_eq, decide_eq_false_iff_not, reduceCtorEq, false_implies, true_implies, and_true, true_and, Bool.not_eq_true, Bool.not_eq_false, forall_const, bne_iff_ne, bne_eq_false_iff_eq, beq_iff_eq, beq_eq_false_iff_ne, ne_eq, Decidable.not_not, Bool.not_eq_eq_eq_not, Bool.not_true, Bool.not_false, Bool.and_eq_true, Bool.or_eq_true, Int.natCast_inj, Bool.and_eq_false_iff, Bool.or_eq_false_iff] at hc); first | (exfalso; omega) | (exfalso; exact hc trivial) | refine Ev_in ?_))
    | (with_reducible apply W_cond_k; intro _ _ ea eb; (simp only [condK, not_true_eq_false, not_false_eq_true, opnd, constPV, List.getD_cons_zero, List.getD_cons_succ, fr_getD_cons, fr_getD_nil, Nat.reduceEqDiff, Nat.reduceLT, ↓reduceIte, decide_eq_true_eq, decide_eq_false_iff_not, reduceCtorEq, false_implies, true_implies, and_true, true_and, Bool.not_eq_true, Bool.not_eq_false, forall_const, bne_iff_ne, bne_eq_false_iff_eq, beq_iff_eq, beq_eq_false_iff_ne, ne_eq, Decidable.not_not, Bool.not_eq_eq_eq_not, Bool.not_true, Bool.not_false, Bool.and_eq_true, Bool.or_eq_true, Int.natCast_inj, Bool.and_eq_false_iff, Bool.or_eq_false_iff]); subst ea eb; first | (refine ⟨fun hc => ?_, fun hc => ?_⟩ <;> first | (exfalso; omega) | (exfalso; exact hc trivial) | skip) | skip)
    | (with_reducible apply hnx; clear hnx nx)
    | (with_reducible refine And.intro (by omega) ?_)
    | (with_reducible refine And.intro ?_ ?_)
    | (with_reducible refine pcall_k (c1) ?_; rintro _ _ ⟨rfl, rfl⟩ -; refine Ev_in ?_)
    | (clear hnx nx; with_reducible apply hnx; clear hnx nx)
    | (clear hnx nx; clear hnx nx; with_reducible apply hnx; clear hnx nx)
    | (clear hnx nx; clear hnx nx; clear hnx nx; with_reducible apply hnx; clear hnx nx))
        all_goals first
          | (exfalso
             omega)
          | exact absurd rfl (by assumption)
          | (refine hfin _ _ (Fin_span2 (by (try simp only [fr_getD_cons, Nat.reduceEqDiff, Nat.reduceLT, ↓reduceIte]); first | done | rfl) (by (try simp only [look, hnm, ↓reduceIte]); first | done | rfl) rfl ?_); simp only [List.getD_cons_zero, List.getD_cons_succ, fr_getD_cons, fr_getD_nil, Nat.reduceEqDiff, Nat.reduceLT, ↓reduceIte]; first | trivial | exact ⟨rfl, by trivial⟩ | (simp; done) | (simp; omega))
      · rw [if_neg hy]
        have c2 := rstart_c G (max 1 (y - 5)) (by omega) (by omega)
        have c3 := rstart_c G (min 2800 (y + 4) + 1) (by omega) (by omega)
        have s3 := startI_le (y := min 2800 (y + 4) + 1) (by omega) (by omega)
        (refine PCalls_f Tryd.func18 rfl Tryd.ntmps18 Tryd.results18 (by simp) fun fin hfin => ?_; have hnm : True := trivial; simp (maxSteps := 2000000) (disch := omega) only [↓popG_eq, ↓pop.eq_1, ↓List.getElem?_map, ↓List.getElem?_cons_zero, ↓List.getElem?_cons_succ, pbuiltin, opnd, constPV, PState.put, fr_set, fr_getD_nil, fr_same, fr_other, layFrom, List.set, pnck, pguard_tt, pguard_tf, pguard_ft, pguard_ff, seqK, blockK, scopeK, List.map_cons, List.map_nil, List.getD_cons_zero, List.getD_cons_succ, List.getD_nil, List.getElem?_nil, Option.join_some, Option.join_none, pbin, pun, ppick, plen, pldop, pload, pfaddr, piaddr, pindex, pfield, pslice, pbound, pconv, pelems, pextract, pmm, parr, pbuild, pfill, PV.mem?, PV.one, PV.cells, pageq, peqs, peq1, palloc, pbox, pbuildS, pmakes, pstore, pappend, pcopy, pbytes, pmark, psrc, vcells, Value.oneCell', look, upd, del, names, Option.map_some, Option.map_none, List.length_cons, List.length_nil, List.all_cons, List.all_nil, Bool.and_true, Bool.true_and, Bool.not_true, Bool.not_false, List.take_zero, List.drop_zero, List.nil_append, List.cons_append, List.append_nil, Nat.reduceAdd, Nat.reduceMul, Nat.reduceSub, Nat.reduceLeDiff, Nat.reduceEqDiff, Nat.zero_add, Nat.add_zero, Nat.mul_one, Nat.zero_mul, List.drop_succ_cons, List.take_succ_cons, List.drop_nil, List.take_nil, ↓reduceIte, ne_eq, true_and, and_true, not_false_eq_true, reduceCtorEq, forall_const, List.toList_toArray, times, List.replicate_succ, List.replicate_zero, List.flatten_cons, List.flatten_nil, Value.cells, Int.toNat_natCast, Int.toNat_zero, Int.toNat_one, bl_mk, bl_lit, wr64, toNat_add1, toNat_sub1, map_getD, Int.natCast_nonneg, List.length_map, Bool.not_not, List.not_mem_nil, Option.some.injEq, exists_and_left, exists_eq_left', Int.cast_ofNat_Int, Int.natCast_zero, eq_self, List.size_toArray, Nat.reduceLT, Int.reduceLT, Int.reduceLE, Int.reduceToNat, Int.reduceAdd, Int.reduceSub, Int.reduceNeg, decide_true, decide_false, List.length_take, List.length_append, List.length_drop, hnm, Tryd.tf0, Tryd.tf1, Tryd.tf3, Tryd.tf4, Tryd.tf5, Tryd.tf9, Tryd.tf22, Tryd.tf30, Tryd.teq30, Tryd.tf31, Tryd.teq57, Tryd.teq58, Tryd.tf65, Tryd.teq79, Tryd.teq80, Tryd.teq86, Tryd.teq88, Tryd.teq96, Tryd.teq98, Tryd.call39, Tryd.call46, Tryd.call47])
        repeat' (first
    | (with_reducible apply W_seq_k; intro nx hnx)
    | with_reducible apply W_block
    | with_reducible apply W_scope
    | (with_reducible refine W_prune 2045 ?_; simp only [prune_cons, prune_nil, Nat.reducePow, Nat.reduceDiv, Nat.reduceMod, Nat.reduceBEq, cond_true, cond_false]; with_reducible apply W_region_l)
    | ((first | (with_reducible apply WL_op; intro nx hnx) | with_reducible refine Ev_out ?_ | (with_reducible refine pfresh_k hnm fun nm hnm => ?_; (try simp only [List.forall_mem_cons, List.not_mem_nil, false_implies, implies_true, and_true, true_and, ne_eq] at hnm))); try (simp (maxSteps := 2000000) (disch := omega) only [↓popG_eq, ↓pop.eq_1, ↓List.getElem?_map, ↓List.getElem?_cons_zero, ↓List.getElem?_cons_succ, pbuiltin, opnd, constPV, PState.put, fr_set, fr_getD_nil, fr_same, fr_other, layFrom, List.set, pnck, pguard_tt, pguard_tf, pguard_ft, pguard_ff, seqK, blockK, scopeK, List.map_cons, List.map_nil, List.getD_cons_zero, List.getD_cons_succ, List.getD_nil, List.getElem?_nil, Option.join_some, Option.join_none, pbin, pun, ppick, plen, pldop, pload, pfaddr, piaddr, pindex, pfield, pslice, pbound, pconv, pelems, pextract, pmm, parr, pbuild, pfill, PV.mem?, PV.one, PV.cells, pageq, peqs, peq1, palloc, pbox, pbuildS, pmakes, pstore, pappend, pcopy, pbytes, pmark, psrc, vcells, Value.oneCell', look, upd, del, names, Option.map_some, Option.map_none, List.length_cons, List.length_nil, List.all_cons, List.all_nil, Bool.and_true, Bool.true_and, Bool.not_true, Bool.not_false, List.take_zero, List.drop_zero, List.nil_append, List.cons_append, List.append_nil, Nat.reduceAdd, Nat.reduceMul, Nat.reduceSub, Nat.reduceLeDiff, Nat.reduceEqDiff, Nat.zero_add, Nat.add_zero, Nat.mul_one, Nat.zero_mul, List.drop_succ_cons, List.take_succ_cons, List.drop_nil, List.take_nil, ↓reduceIte, ne_eq, true_and, and_true, not_false_eq_true, reduceCtorEq, forall_const, List.toList_toArray, times, List.replicate_succ, List.replicate_zero, List.flatten_cons, List.flatten_nil, Value.cells, Int.toNat_natCast, Int.toNat_zero, Int.toNat_one, bl_mk, bl_lit, wr64, toNat_add1, toNat_sub1, map_getD, Int.natCast_nonneg, List.length_map, Bool.not_not, List.not_mem_nil, Option.some.injEq, exists_and_left, exists_eq_left', Int.cast_ofNat_Int, Int.natCast_zero, eq_self, List.size_toArray, Nat.reduceLT, Int.reduceLT, Int.reduceLE, Int.reduceToNat, Int.reduceAdd, Int.reduceSub, Int.reduceNeg, decide_true, decide_false, List.length_take, List.length_append, List.length_drop, hnm, Tryd.tf0, Tryd.tf1, Tryd.tf3, Tryd.tf4, Tryd.tf5, Tryd.tf9, Tryd.tf22, Tryd.tf30, Tryd.teq30, Tryd.tf31, Tryd.teq57, Tryd.teq58, Tryd.tf65, Tryd.teq79, Tryd.teq80, Tryd.teq86, Tryd.teq88, Tryd.teq96, Tryd.teq98, Tryd.call39, Tryd.call46, Tryd.call47, hg, hr2]); repeat (refine And.intro (by omega) ?_))
    | ((first | with_reducible apply WL_nil | with_reducible apply W_label | with_reducible apply W_skip | with_reducible apply W_exit | with_reducible apply W_ret); try simp only [seqK, blockK, scopeK, ↓reduceIte, Nat.reduceEqDiff])
    | (with_reducible apply pguard_intro <;> (intro hc; (try simp only [decide_eq_true_eq, decide_eq_false_iff_not, reduceCtorEq, false_implies, true_implies, and_true, true_and, Bool.not_eq_true, Bool.not_eq_false, forall_const, bne_iff_ne, bne_eq_false_iff_eq, beq_iff_eq, beq_eq_false_iff_ne, ne_eq, Decidable.not_not, Bool.not_eq_eq_eq_not, Bool.not_true, Bool.not_false, Bool.and_eq_true, Bool.or_eq_true, Int.natCast_inj, Bool.and_eq_false_iff, Bool.or_eq_false_iff] at hc); first | (exfalso; omega) | (exfalso; exact hc trivial) | refine Ev_in ?_))
    | (with_reducible apply W_cond_k; intro _ _ ea eb; (simp only [condK, not_true_eq_false, not_false_eq_true, opnd, constPV, List.getD_cons_zero, List.getD_cons_succ, fr_getD_cons, fr_getD_nil, Nat.reduceEqDiff, Nat.reduceLT, ↓reduceIte, decide_eq_true_eq, decide_eq_false_iff_not, reduceCtorEq, false_implies, true_implies, and_true, true_and, Bool.not_eq_true, Bool.not_eq_false, forall_const, bne_iff_ne, bne_eq_false_iff_eq, beq_iff_eq, beq_eq_false_iff_ne, ne_eq, Decidable.not_not, Bool.not_eq_eq_eq_not, Bool.not_true, Bool.not_false, Bool.and_eq_true, Bool.or_eq_true, Int.natCast_inj, Bool.and_eq_false_iff, Bool.or_eq_false_iff]); subst ea eb; first | (refine ⟨fun hc => ?_, fun hc => ?_⟩ <;> first | (exfalso; omega) | (exfalso; exact hc trivial) | skip) | skip)
    | (with_reducible apply hnx; clear hnx nx)
    | (with_reducible refine And.intro (by omega) ?_)
    | (with_reducible refine And.intro ?_ ?_)
    | (with_reducible refine pcall_k (c1) ?_; rintro _ _ ⟨rfl, rfl⟩ -; refine Ev_in ?_)
    | (with_reducible refine pcall_k (c2) ?_; rintro _ _ ⟨rfl, rfl⟩ -; refine Ev_in ?_)
    | (with_reducible refine pcall_k (c3) ?_; rintro _ _ ⟨rfl, rfl⟩ -; refine Ev_in ?_)
    | (clear hnx nx; with_reducible apply hnx; clear hnx nx)
    | (clear hnx nx; clear hnx nx; with_reducible apply hnx; clear hnx nx)
    | (clear hnx nx; clear hnx nx; clear hnx nx; with_reducible apply hnx; clear hnx nx))
        all_goals first
          | (exfalso
             omega)
          | exact absurd rfl (by assumption)
          | (refine hfin _ _ (Fin_span2 (by (try simp only [fr_getD_cons, Nat.reduceEqDiff, Nat.reduceLT, ↓reduceIte]); first | done | rfl) (by (try simp only [look, hnm, ↓reduceIte]); first | done | rfl) rfl ?_); simp only [List.getD_cons_zero, List.getD_cons_succ, fr_getD_cons, fr_getD_nil, Nat.reduceEqDiff, Nat.reduceLT, ↓reduceIte]; first | trivial | exact ⟨rfl, by trivial⟩ | (simp; done) | (simp; omega))
  · have hP : parseP s = (if posL s < s.length then bothP (dateP (s.take (posL s))) (dateP (s.drop (posL s + 1))) else dateP s) := by
      by_cases h : s.take 1 = [99]
      · exact parseP_c s h (fun h5 => hc ⟨h5, h⟩)
      · rw [parseP, if_neg h]
    have hn : s.length = 5 → ¬ s.getD 0 0 = 99 := by
      intro h5 hg
      exact hc ⟨h5, (take1_c s (by omega)).2 hg⟩
    rw [hP]
    clear hP hc
    have hpl := posL_le s
    (refine PCalls_f Tryd.func18 rfl Tryd.ntmps18 Tryd.results18 (by simp) fun fin hfin => ?_; have hnm : True := trivial; simp (maxSteps := 2000000) (disch := omega) only [↓popG_eq, ↓pop.eq_1, ↓List.getElem?_map, ↓List.getElem?_cons_zero, ↓List.getElem?_cons_succ, pbuiltin, opnd, constPV, PState.put, fr_set, fr_getD_nil, fr_same, fr_other, layFrom, List.set, pnck, pguard_tt, pguard_tf, pguard_ft, pguard_ff, seqK, blockK, scopeK, List.map_cons, List.map_nil, List.getD_cons_zero, List.getD_cons_succ, List.getD_nil, List.getElem?_nil, Option.join_some, Option.join_none, pbin, pun, ppick, plen, pldop, pload, pfaddr, piaddr, pindex, pfield, pslice, pbound, pconv, pelems, pextract, pmm, parr, pbuild, pfill, PV.mem?, PV.one, PV.cells, pageq, peqs, peq1, palloc, pbox, pbuildS, pmakes, pstore, pappend, pcopy, pbytes, pmark, psrc, vcells, Value.oneCell', look, upd, del, names, Option.map_some, Option.map_none, List.length_cons, List.length_nil, List.all_cons, List.all_nil, Bool.and_true, Bool.true_and, Bool.not_true, Bool.not_false, List.take_zero, List.drop_zero, List.nil_append, List.cons_append, List.append_nil, Nat.reduceAdd, Nat.reduceMul, Nat.reduceSub, Nat.reduceLeDiff, Nat.reduceEqDiff, Nat.zero_add, Nat.add_zero, Nat.mul_one, Nat.zero_mul, List.drop_succ_cons, List.take_succ_cons, List.drop_nil, List.take_nil, ↓reduceIte, ne_eq, true_and, and_true, not_false_eq_true, reduceCtorEq, forall_const, List.toList_toArray, times, List.replicate_succ, List.replicate_zero, List.flatten_cons, List.flatten_nil, Value.cells, Int.toNat_natCast, Int.toNat_zero, Int.toNat_one, bl_mk, bl_lit, wr64, toNat_add1, toNat_sub1, map_getD, Int.natCast_nonneg, List.length_map, Bool.not_not, List.not_mem_nil, Option.some.injEq, exists_and_left, exists_eq_left', Int.cast_ofNat_Int, Int.natCast_zero, eq_self, List.size_toArray, Nat.reduceLT, Int.reduceLT, Int.reduceLE, Int.reduceToNat, Int.reduceAdd, Int.reduceSub, Int.reduceNeg, decide_true, decide_false, List.length_take, List.length_append, List.length_drop, hnm, Tryd.tf0, Tryd.tf1, Tryd.tf3, Tryd.tf4, Tryd.tf5, Tryd.tf9, Tryd.tf22, Tryd.tf30, Tryd.teq30, Tryd.tf31, Tryd.teq57, Tryd.teq58, Tryd.tf65, Tryd.teq79, Tryd.teq80, Tryd.teq86, Tryd.teq88, Tryd.teq96, Tryd.teq98, Tryd.call39, Tryd.call46, Tryd.call47])
    repeat' (first
    | (with_reducible apply W_seq_k; intro nx hnx)
    | with_reducible apply W_block
    | with_reducible apply W_scope
    | (with_reducible refine W_prune 2045 ?_; simp only [prune_cons, prune_nil, Nat.reducePow, Nat.reduceDiv, Nat.reduceMod, Nat.reduceBEq, cond_true, cond_false]; with_reducible apply W_region_l)
    | ((first | (with_reducible apply WL_op; intro nx hnx) | with_reducible refine Ev_out ?_ | (with_reducible refine pfresh_k hnm fun nm hnm => ?_; (try simp only [List.forall_mem_cons, List.not_mem_nil, false_implies, implies_true, and_true, true_and, ne_eq] at hnm))); try (simp (maxSteps := 2000000) (disch := omega) only [↓popG_eq, ↓pop.eq_1, ↓List.getElem?_map, ↓List.getElem?_cons_zero, ↓List.getElem?_cons_succ, pbuiltin, opnd, constPV, PState.put, fr_set, fr_getD_nil, fr_same, fr_other, layFrom, List.set, pnck, pguard_tt, pguard_tf, pguard_ft, pguard_ff, seqK, blockK, scopeK, List.map_cons, List.map_nil, List.getD_cons_zero, List.getD_cons_succ, List.getD_nil, List.getElem?_nil, Option.join_some, Option.join_none, pbin, pun, ppick, plen, pldop, pload, pfaddr, piaddr, pindex, pfield, pslice, pbound, pconv, pelems, pextract, pmm, parr, pbuild, pfill, PV.mem?, PV.one, PV.cells, pageq, peqs, peq1, palloc, pbox, pbuildS, pmakes, pstore, pappend, pcopy, pbytes, pmark, psrc, vcells, Value.oneCell', look, upd, del, names, Option.map_some, Option.map_none, List.length_cons, List.length_nil, List.all_cons, List.all_nil, Bool.and_true, Bool.true_and, Bool.not_true, Bool.not_false, List.take_zero, List.drop_zero, List.nil_append, List.cons_append, List.append_nil, Nat.reduceAdd, Nat.reduceMul, Nat.reduceSub, Nat.reduceLeDiff, Nat.reduceEqDiff, Nat.zero_add, Nat.add_zero, Nat.mul_one, Nat.zero_mul, List.drop_succ_cons, List.take_succ_cons, List.drop_nil, List.take_nil, ↓reduceIte, ne_eq, true_and, and_true, not_false_eq_true, reduceCtorEq, forall_const, List.toList_toArray, times, List.replicate_succ, List.replicate_zero, List.flatten_cons, List.flatten_nil, Value.cells, Int.toNat_natCast, Int.toNat_zero, Int.toNat_one, bl_mk, bl_lit, wr64, toNat_add1, toNat_sub1, map_getD, Int.natCast_nonneg, List.length_map, Bool.not_not, List.not_mem_nil, Option.some.injEq, exists_and_left, exists_eq_left', Int.cast_ofNat_Int, Int.natCast_zero, eq_self, List.size_toArray, Nat.reduceLT, Int.reduceLT, Int.reduceLE, Int.reduceToNat, Int.reduceAdd, Int.reduceSub, Int.reduceNeg, decide_true, decide_false, List.length_take, List.length_append, List.length_drop, hnm, Tryd.tf0, Tryd.tf1, Tryd.tf3, Tryd.tf4, Tryd.tf5, Tryd.tf9, Tryd.tf22, Tryd.tf30, Tryd.teq30, Tryd.tf31, Tryd.teq57, Tryd.teq58, Tryd.tf65, Tryd.teq79, Tryd.teq80, Tryd.teq86, Tryd.teq88, Tryd.teq96, Tryd.teq98, Tryd.call39, Tryd.call46, Tryd.call47]); repeat (refine And.intro (by omega) ?_))
    | ((first | with_reducible apply WL_nil | with_reducible apply W_label | with_reducible apply W_skip | with_reducible apply W_exit | with_reducible apply W_ret); try simp only [seqK, blockK, scopeK, ↓reduceIte, Nat.reduceEqDiff])
    | (with_reducible apply pguard_intro <;> (intro hc; (try simp only [decide_eq_true_eq, decide_eq_false_iff_not, reduceCtorEq, false_implies, true_implies, and_true, true_and, Bool.not_eq_true, Bool.not_eq_false, forall_const, bne_iff_ne, bne_eq_false_iff_eq, beq_iff_eq, beq_eq_false_iff_ne, ne_eq, Decidable.not_not, Bool.not_eq_eq_eq_not, Bool.not_true, Bool.not_false, Bool.and_eq_true, Bool.or_eq_true, Int.natCast_inj, Bool.and_eq_false_iff, Bool.or_eq_false_iff] at hc); first | (exfalso; omega) | (exfalso; exact hc trivial) | refine Ev_in ?_))
    | (with_reducible apply W_cond_k; intro _ _ ea eb; (simp only [condK, not_true_eq_false, not_false_eq_true, opnd, constPV, List.getD_cons_zero, List.getD_cons_succ, fr_getD_cons, fr_getD_nil, Nat.reduceEqDiff, Nat.reduceLT, ↓reduceIte, decide_eq_true_eq, decide_eq_false_iff_not, reduceCtorEq, false_implies, true_implies, and_true, true_and, Bool.not_eq_true, Bool.not_eq_false, forall_const, bne_iff_ne, bne_eq_false_iff_eq, beq_iff_eq, beq_eq_false_iff_ne, ne_eq, Decidable.not_not, Bool.not_eq_eq_eq_not, Bool.not_true, Bool.not_false, Bool.and_eq_true, Bool.or_eq_true, Int.natCast_inj, Bool.and_eq_false_iff, Bool.or_eq_false_iff]); subst ea eb; first | (refine ⟨fun hc => ?_, fun hc => ?_⟩ <;> first | (exfalso; omega) | (exfalso; exact hc trivial) | skip) | skip)
    | (with_reducible apply hnx; clear hnx nx)
    | (with_reducible refine And.intro (by omega) ?_)
    | (with_reducible refine And.intro ?_ ?_)
    | (clear hnx nx; with_reducible apply hnx; clear hnx nx)
    | (clear hnx nx; clear hnx nx; with_reducible apply hnx; clear hnx nx)
    | (clear hnx nx; clear hnx nx; clear hnx nx; with_reducible apply hnx; clear hnx nx))
    all_goals first
      | (exfalso
         omega)
      | (exfalso
         exact hn (by omega) (nat99.1 hc))
      | skip
    all_goals
      clear hn q99
      obtain ⟨N2, hN2⟩ : ∃ n, n = nm := ⟨_, rfl⟩
      subst hN2
      clear hnm
      have hnm : True := trivial
      refine W_loop_k (fun k τ => ∃ i : Nat, i ≤ posL s ∧ k = posL s - i ∧ τ = ⟨fr 107 [(0, pstr s), (2, .ptr N2 0), (3, pint .i64 0), (6, pint .i64 i)], [(N2, ⟨30, false, 0, [pint .i64 0, pint .i64 0]⟩)]⟩) (posL s)
        ⟨fr 107 [(0, pstr s), (2, .ptr N2 0), (3, pint .i64 0), (6, pint .i64 (0 : Nat))], [(N2, ⟨30, false, 0, [pint .i64 0, pint .i64 0]⟩)]⟩ (by
        refine Wk_fr (by simp only [List.forall_mem_cons, List.not_mem_nil, false_implies, implies_true, and_true, true_and, and_self, fr_getD_cons, fr_getD_nil, Nat.reduceEqDiff, Nat.reduceLT, ↓reduceIte, Int.natCast_add, Int.cast_ofNat_Int, Int.natCast_zero]) ?_
        exact ⟨by simp, by simp [names]⟩) ⟨0, by omega, by omega, rfl⟩ ?_
      rintro k τ ⟨i, hi, rfl, rfl⟩ lp hlp
      by_cases hip : i < posL s
      · have hne := posL_ne s i hip
        repeat' (first
    | (with_reducible apply W_seq_k; intro nx hnx)
    | with_reducible apply W_block
    | with_reducible apply W_scope
    | (with_reducible refine W_prune 2045 ?_; simp only [prune_cons, prune_nil, Nat.reducePow, Nat.reduceDiv, Nat.reduceMod, Nat.reduceBEq, cond_true, cond_false]; with_reducible apply W_region_l)
    | ((first | (with_reducible apply WL_op; intro nx hnx) | with_reducible refine Ev_out ?_ | (with_reducible refine pfresh_k hnm fun nm hnm => ?_; (try simp only [List.forall_mem_cons, List.not_mem_nil, false_implies, implies_true, and_true, true_and, ne_eq] at hnm))); try (simp (maxSteps := 2000000) (disch := omega) only [↓popG_eq, ↓pop.eq_1, ↓List.getElem?_map, ↓List.getElem?_cons_zero, ↓List.getElem?_cons_succ, pbuiltin, opnd, constPV, PState.put, fr_set, fr_getD_nil, fr_same, fr_other, layFrom, List.set, pnck, pguard_tt, pguard_tf, pguard_ft, pguard_ff, seqK, blockK, scopeK, List.map_cons, List.map_nil, List.getD_cons_zero, List.getD_cons_succ, List.getD_nil, List.getElem?_nil, Option.join_some, Option.join_none, pbin, pun, ppick, plen, pldop, pload, pfaddr, piaddr, pindex, pfield, pslice, pbound, pconv, pelems, pextract, pmm, parr, pbuild, pfill, PV.mem?, PV.one, PV.cells, pageq, peqs, peq1, palloc, pbox, pbuildS, pmakes, pstore, pappend, pcopy, pbytes, pmark, psrc, vcells, Value.oneCell', look, upd, del, names, Option.map_some, Option.map_none, List.length_cons, List.length_nil, List.all_cons, List.all_nil, Bool.and_true, Bool.true_and, Bool.not_true, Bool.not_false, List.take_zero, List.drop_zero, List.nil_append, List.cons_append, List.append_nil, Nat.reduceAdd, Nat.reduceMul, Nat.reduceSub, Nat.reduceLeDiff, Nat.reduceEqDiff, Nat.zero_add, Nat.add_zero, Nat.mul_one, Nat.zero_mul, List.drop_succ_cons, List.take_succ_cons, List.drop_nil, List.take_nil, ↓reduceIte, ne_eq, true_and, and_true, not_false_eq_true, reduceCtorEq, forall_const, List.toList_toArray, times, List.replicate_succ, List.replicate_zero, List.flatten_cons, List.flatten_nil, Value.cells, Int.toNat_natCast, Int.toNat_zero, Int.toNat_one, bl_mk, bl_lit, wr64, toNat_add1, toNat_sub1, map_getD, Int.natCast_nonneg, List.length_map, Bool.not_not, List.not_mem_nil, Option.some.injEq, exists_and_left, exists_eq_left', Int.cast_ofNat_Int, Int.natCast_zero, eq_self, List.size_toArray, Nat.reduceLT, Int.reduceLT, Int.reduceLE, Int.reduceToNat, Int.reduceAdd, Int.reduceSub, Int.reduceNeg, decide_true, decide_false, List.length_take, List.length_append, List.length_drop, hnm, Tryd.tf0, Tryd.tf1, Tryd.tf3, Tryd.tf4, Tryd.tf5, Tryd.tf9, Tryd.tf22, Tryd.tf30, Tryd.teq30, Tryd.tf31, Tryd.teq57, Tryd.teq58, Tryd.tf65, Tryd.teq79, Tryd.teq80, Tryd.teq86, Tryd.teq88, Tryd.teq96, Tryd.teq98, Tryd.call39, Tryd.call46, Tryd.call47]); repeat (refine And.intro (by omega) ?_))
    | ((first | with_reducible apply WL_nil | with_reducible apply W_label | with_reducible apply W_skip | with_reducible apply W_exit | with_reducible apply W_ret); try simp only [seqK, blockK, scopeK, ↓reduceIte, Nat.reduceEqDiff])
    | (with_reducible apply pguard_intro <;> (intro hc; (try simp only [decide_eq_true_eq, decide_eq_false_iff_not, reduceCtorEq, false_implies, true_implies, and_true, true_and, Bool.not_eq_true, Bool.not_eq_false, forall_const, bne_iff_ne, bne_eq_false_iff_eq, beq_iff_eq, beq_eq_false_iff_ne, ne_eq, Decidable.not_not, Bool.not_eq_eq_eq_not, Bool.not_true, Bool.not_false, Bool.and_eq_true, Bool.or_eq_true, Int.natCast_inj, Bool.and_eq_false_iff, Bool.or_eq_false_iff] at hc); first | (exfalso; omega) | (exfalso; exact hc trivial) | refine Ev_in ?_))
    | (with_reducible apply W_cond_k; intro _ _ ea eb; (simp only [condK, not_true_eq_false, not_false_eq_true, opnd, constPV, List.getD_cons_zero, List.getD_cons_succ, fr_getD_cons, fr_getD_nil, Nat.reduceEqDiff, Nat.reduceLT, ↓reduceIte, decide_eq_true_eq, decide_eq_false_iff_not, reduceCtorEq, false_implies, true_implies, and_true, true_and, Bool.not_eq_true, Bool.not_eq_false, forall_const, bne_iff_ne, bne_eq_false_iff_eq, beq_iff_eq, beq_eq_false_iff_ne, ne_eq, Decidable.not_not, Bool.not_eq_eq_eq_not, Bool.not_true, Bool.not_false, Bool.and_eq_true, Bool.or_eq_true, Int.natCast_inj, Bool.and_eq_false_iff, Bool.or_eq_false_iff]); subst ea eb; first | (refine ⟨fun hc => ?_, fun hc => ?_⟩ <;> first | (exfalso; omega) | (exfalso; exact hc trivial) | skip) | skip)
    | (with_reducible apply hnx; clear hnx nx)
    | (with_reducible refine And.intro (by omega) ?_)
    | (with_reducible refine And.intro ?_ ?_)
    | (clear hnx nx; with_reducible apply hnx; clear hnx nx)
    | (clear hnx nx; clear hnx nx; with_reducible apply hnx; clear hnx nx)
    | (clear hnx nx; clear hnx nx; clear hnx nx; with_reducible apply hnx; clear hnx nx))
        all_goals first
          | (exfalso
             omega)
          | (exfalso
             exact hne (nat47.1 (by assumption)))
          | (exfalso
             rename_i h1 h2
             exact h2 (fun h3 => hne (nat47.1 h3)))
          | skip
        refine hlp _ (posL s - (i + 1)) _ (by omega) ?_ ⟨i + 1, by omega, rfl, rfl⟩
        refine Wk_fr (by simp only [List.forall_mem_cons, List.not_mem_nil, false_implies, implies_true, and_true, true_and, and_self, fr_getD_cons, fr_getD_nil, Nat.reduceEqDiff, Nat.reduceLT, ↓reduceIte, Int.natCast_add, Int.cast_ofNat_Int, Int.natCast_zero]) ?_
        exact ⟨by simp, by simp [names]⟩
      · obtain rfl : i = posL s := by omega
        clear hip hlp hi
        by_cases hp : posL s < s.length
        · rw [if_pos hp] at hfin
          have heq := posL_eq s hp
          have c3 := text_c G (s.take (posL s)) (by rw [List.length_take]; omega)
          have c4 := text_c G (s.drop (posL s + 1)) (by rw [List.length_drop]; omega)
          generalize dateP (s.take (posL s)) = a at *
          generalize dateP (s.drop (posL s + 1)) = b at *
          obtain ⟨a1, a2, a3⟩ := a
          obtain ⟨b1, b2, b3⟩ := b
          simp only [bothP] at c3 c4 hfin
          repeat' (first
    | (with_reducible apply W_seq_k; intro nx hnx)
    | with_reducible apply W_block
    | with_reducible apply W_scope
    | (with_reducible refine W_prune 2045 ?_; simp only [prune_cons, prune_nil, Nat.reducePow, Nat.reduceDiv, Nat.reduceMod, Nat.reduceBEq, cond_true, cond_false]; with_reducible apply W_region_l)
    | ((first | (with_reducible apply WL_op; intro nx hnx) | with_reducible refine Ev_out ?_ | (with_reducible refine pfresh_k hnm fun nm hnm => ?_; (try simp only [List.forall_mem_cons, List.not_mem_nil, false_implies, implies_true, and_true, true_and, ne_eq] at hnm))); try (simp (maxSteps := 2000000) (disch := omega) only [↓popG_eq, ↓pop.eq_1, ↓List.getElem?_map, ↓List.getElem?_cons_zero, ↓List.getElem?_cons_succ, pbuiltin, opnd, constPV, PState.put, fr_set, fr_getD_nil, fr_same, fr_other, layFrom, List.set, pnck, pguard_tt, pguard_tf, pguard_ft, pguard_ff, seqK, blockK, scopeK, List.map_cons, List.map_nil, List.getD_cons_zero, List.getD_cons_succ, List.getD_nil, List.getElem?_nil, Option.join_some, Option.join_none, pbin, pun, ppick, plen, pldop, pload, pfaddr, piaddr, pindex, pfield, pslice, pbound, pconv, pelems, pextract, pmm, parr, pbuild, pfill, PV.mem?, PV.one, PV.cells, pageq, peqs, peq1, palloc, pbox, pbuildS, pmakes, pstore, pappend, pcopy, pbytes, pmark, psrc, vcells, Value.oneCell', look, upd, del, names, Option.map_some, Option.map_none, List.length_cons, List.length_nil, List.all_cons, List.all_nil, Bool.and_true, Bool.true_and, Bool.not_true, Bool.not_false, List.take_zero, List.drop_zero, List.nil_append, List.cons_append, List.append_nil, Nat.reduceAdd, Nat.reduceMul, Nat.reduceSub, Nat.reduceLeDiff, Nat.reduceEqDiff, Nat.zero_add, Nat.add_zero, Nat.mul_one, Nat.zero_mul, List.drop_succ_cons, List.take_succ_cons, List.drop_nil, List.take_nil, ↓reduceIte, ne_eq, true_and, and_true, not_false_eq_true, reduceCtorEq, forall_const, List.toList_toArray, times, List.replicate_succ, List.replicate_zero, List.flatten_cons, List.flatten_nil, Value.cells, Int.toNat_natCast, Int.toNat_zero, Int.toNat_one, bl_mk, bl_lit, wr64, toNat_add1, toNat_sub1, map_getD, Int.natCast_nonneg, List.length_map, Bool.not_not, List.not_mem_nil, Option.some.injEq, exists_and_left, exists_eq_left', Int.cast_ofNat_Int, Int.natCast_zero, eq_self, List.size_toArray, Nat.reduceLT, Int.reduceLT, Int.reduceLE, Int.reduceToNat, Int.reduceAdd, Int.reduceSub, Int.reduceNeg, decide_true, decide_false, List.length_take, List.length_append, List.length_drop, hnm, Tryd.tf0, Tryd.tf1, Tryd.tf3, Tryd.tf4, Tryd.tf5, Tryd.tf9, Tryd.tf22, Tryd.tf30, Tryd.teq30, Tryd.tf31, Tryd.teq57, Tryd.teq58, Tryd.tf65, Tryd.teq79, Tryd.teq80, Tryd.teq86, Tryd.teq88, Tryd.teq96, Tryd.teq98, Tryd.call39, Tryd.call46, Tryd.call47, heq, List.take_length]); repeat (refine And.intro (by omega) ?_))
    | ((first | with_reducible apply WL_nil | with_reducible apply W_label | with_reducible apply W_skip | with_reducible apply W_exit | with_reducible apply W_ret); try simp only [seqK, blockK, scopeK, ↓reduceIte, Nat.reduceEqDiff])
    | (with_reducible apply pguard_intro <;> (intro hc; (try simp only [decide_eq_true_eq, decide_eq_false_iff_not, reduceCtorEq, false_implies, true_implies, and_true, true_and, Bool.not_eq_true, Bool.not_eq_false, forall_const, bne_iff_ne, bne_eq_false_iff_eq, beq_iff_eq, beq_eq_false_iff_ne, ne_eq, Decidable.not_not, Bool.not_eq_eq_eq_not, Bool.not_true, Bool.not_false, Bool.and_eq_true, Bool.or_eq_true, Int.natCast_inj, Bool.and_eq_false_iff, Bool.or_eq_false_iff] at hc); first | (exfalso; omega) | (exfalso; exact hc trivial) | refine Ev_in ?_))
    | (with_reducible apply W_cond_k; intro _ _ ea eb; (simp only [condK, not_true_eq_false, not_false_eq_true, opnd, constPV, List.getD_cons_zero, List.getD_cons_succ, fr_getD_cons, fr_getD_nil, Nat.reduceEqDiff, Nat.reduceLT, ↓reduceIte, decide_eq_true_eq, decide_eq_false_iff_not, reduceCtorEq, false_implies, true_implies, and_true, true_and, Bool.not_eq_true, Bool.not_eq_false, forall_const, bne_iff_ne, bne_eq_false_iff_eq, beq_iff_eq, beq_eq_false_iff_ne, ne_eq, Decidable.not_not, Bool.not_eq_eq_eq_not, Bool.not_true, Bool.not_false, Bool.and_eq_true, Bool.or_eq_true, Int.natCast_inj, Bool.and_eq_false_iff, Bool.or_eq_false_iff]); subst ea eb; first | (refine ⟨fun hc => ?_, fun hc => ?_⟩ <;> first | (exfalso; omega) | (exfalso; exact hc trivial) | skip) | skip)
    | (with_reducible apply hnx; clear hnx nx)
    | (with_reducible refine And.intro (by omega) ?_)
    | (with_reducible refine And.intro ?_ ?_)
    | (with_reducible refine pcall_k (c3) ?_; rintro _ _ ⟨rfl, rfl⟩ -; refine Ev_in ?_)
    | (with_reducible refine pcall_k (c4) ?_; rintro _ _ ⟨rfl, rfl⟩ -; refine Ev_in ?_)
    | (clear hnx nx; with_reducible apply hnx; clear hnx nx)
    | (clear hnx nx; clear hnx nx; with_reducible apply hnx; clear hnx nx)
    | (clear hnx nx; clear hnx nx; clear hnx nx; with_reducible apply hnx; clear hnx nx))
          all_goals first
            | (exfalso
               omega)
            | exact absurd rfl (by assumption)
            | (first
                | rw [if_pos (by omega)] at hfin
                | rw [if_neg (by omega), if_pos (by omega)] at hfin
                | rw [if_neg (by omega), if_neg (by omega)] at hfin
               (refine hfin _ _ (Fin_span2 (by (try simp only [fr_getD_cons, Nat.reduceEqDiff, Nat.reduceLT, ↓reduceIte]); first | done | rfl) (by (try simp only [look, hnm, ↓reduceIte]); first | done | rfl) rfl ?_); simp only [List.getD_cons_zero, List.getD_cons_succ, fr_getD_cons, fr_getD_nil, Nat.reduceEqDiff, Nat.reduceLT, ↓reduceIte]; first | trivial | exact ⟨rfl, by trivial⟩ | (simp; done) | (simp; omega)))
        · rw [if_neg hp] at hfin
          have hpe : posL s = s.length := by omega
          rw [hpe]
          have c3 := text_c G s hs
          generalize dateP s = a at *
          obtain ⟨a1, a2, a3⟩ := a
          repeat' (first
    | (with_reducible apply W_seq_k; intro nx hnx)
    | with_reducible apply W_block
    | with_reducible apply W_scope
    | (with_reducible refine W_prune 2045 ?_; simp only [prune_cons, prune_nil, Nat.reducePow, Nat.reduceDiv, Nat.reduceMod, Nat.reduceBEq, cond_true, cond_false]; with_reducible apply W_region_l)
    | ((first | (with_reducible apply WL_op; intro nx hnx) | with_reducible refine Ev_out ?_ | (with_reducible refine pfresh_k hnm fun nm hnm => ?_; (try simp only [List.forall_mem_cons, List.not_mem_nil, false_implies, implies_true, and_true, true_and, ne_eq] at hnm))); try (simp (maxSteps := 2000000) (disch := omega) only [↓popG_eq, ↓pop.eq_1, ↓List.getElem?_map, ↓List.getElem?_cons_zero, ↓List.getElem?_cons_succ, pbuiltin, opnd, constPV, PState.put, fr_set, fr_getD_nil, fr_same, fr_other, layFrom, List.set, pnck, pguard_tt, pguard_tf, pguard_ft, pguard_ff, seqK, blockK, scopeK, List.map_cons, List.map_nil, List.getD_cons_zero, List.getD_cons_succ, List.getD_nil, List.getElem?_nil, Option.join_some, Option.join_none, pbin, pun, ppick, plen, pldop, pload, pfaddr, piaddr, pindex, pfield, pslice, pbound, pconv, pelems, pextract, pmm, parr, pbuild, pfill, PV.mem?, PV.one, PV.cells, pageq, peqs, peq1, palloc, pbox, pbuildS, pmakes, pstore, pappend, pcopy, pbytes, pmark, psrc, vcells, Value.oneCell', look, upd, del, names, Option.map_some, Option.map_none, List.length_cons, List.length_nil, List.all_cons, List.all_nil, Bool.and_true, Bool.true_and, Bool.not_true, Bool.not_false, List.take_zero, List.drop_zero, List.nil_append, List.cons_append, List.append_nil, Nat.reduceAdd, Nat.reduceMul, Nat.reduceSub, Nat.reduceLeDiff, Nat.reduceEqDiff, Nat.zero_add, Nat.add_zero, Nat.mul_one, Nat.zero_mul, List.drop_succ_cons, List.take_succ_cons, List.drop_nil, List.take_nil, ↓reduceIte, ne_eq, true_and, and_true, not_false_eq_true, reduceCtorEq, forall_const, List.toList_toArray, times, List.replicate_succ, List.replicate_zero, List.flatten_cons, List.flatten_nil, Value.cells, Int.toNat_natCast, Int.toNat_zero, Int.toNat_one, bl_mk, bl_lit, wr64, toNat_add1, toNat_sub1, map_getD, Int.natCast_nonneg, List.length_map, Bool.not_not, List.not_mem_nil, Option.some.injEq, exists_and_left, exists_eq_left', Int.cast_ofNat_Int, Int.natCast_zero, eq_self, List.size_toArray, Nat.reduceLT, Int.reduceLT, Int.reduceLE, Int.reduceToNat, Int.reduceAdd, Int.reduceSub, Int.reduceNeg, decide_true, decide_false, List.length_take, List.length_append, List.length_drop, hnm, Tryd.tf0, Tryd.tf1, Tryd.tf3, Tryd.tf4, Tryd.tf5, Tryd.tf9, Tryd.tf22, Tryd.tf30, Tryd.teq30, Tryd.tf31, Tryd.teq57, Tryd.teq58, Tryd.tf65, Tryd.teq79, Tryd.teq80, Tryd.teq86, Tryd.teq88, Tryd.teq96, Tryd.teq98, Tryd.call39, Tryd.call46, Tryd.call47]); repeat (refine And.intro (by omega) ?_))
    | ((first | with_reducible apply WL_nil | with_reducible apply W_label | with_reducible apply W_skip | with_reducible apply W_exit | with_reducible apply W_ret); try simp only [seqK, blockK, scopeK, ↓reduceIte, Nat.reduceEqDiff])
    | (with_reducible apply pguard_intro <;> (intro hc; (try simp only [decide_eq_true_eq, decide_eq_false_iff_not, reduceCtorEq, false_implies, true_implies, and_true, true_and, Bool.not_eq_true, Bool.not_eq_false, forall_const, bne_iff_ne, bne_eq_false_iff_eq, beq_iff_eq, beq_eq_false_iff_ne, ne_eq, Decidable.not_not, Bool.not_eq_eq_eq_not, Bool.not_true, Bool.not_false, Bool.and_eq_true, Bool.or_eq_true, Int.natCast_inj, Bool.and_eq_false_iff, Bool.or_eq_false_iff] at hc); first | (exfalso; omega) | (exfalso; exact hc trivial) | refine Ev_in ?_))
    | (with_reducible apply W_cond_k; intro _ _ ea eb; (simp only [condK, not_true_eq_false, not_false_eq_true, opnd, constPV, List.getD_cons_zero, List.getD_cons_succ, fr_getD_cons, fr_getD_nil, Nat.reduceEqDiff, Nat.reduceLT, ↓reduceIte, decide_eq_true_eq, decide_eq_false_iff_not, reduceCtorEq, false_implies, true_implies, and_true, true_and, Bool.not_eq_true, Bool.not_eq_false, forall_const, bne_iff_ne, bne_eq_false_iff_eq, beq_iff_eq, beq_eq_false_iff_ne, ne_eq, Decidable.not_not, Bool.not_eq_eq_eq_not, Bool.not_true, Bool.not_false, Bool.and_eq_true, Bool.or_eq_true, Int.natCast_inj, Bool.and_eq_false_iff, Bool.or_eq_false_iff]); subst ea eb; first | (refine ⟨fun hc => ?_, fun hc => ?_⟩ <;> first | (exfalso; omega) | (exfalso; exact hc trivial) | skip) | skip)
    | (with_reducible apply hnx; clear hnx nx)
    | (with_reducible refine And.intro (by omega) ?_)
    | (with_reducible refine And.intro ?_ ?_)
    | (with_reducible refine pcall_k (c3) ?_; rintro _ _ ⟨rfl, rfl⟩ -; refine Ev_in ?_)
    | (clear hnx nx; with_reducible apply hnx; clear hnx nx)
    | (clear hnx nx; clear hnx nx; with_reducible apply hnx; clear hnx nx)
    | (clear hnx nx; clear hnx nx; clear hnx nx; with_reducible apply hnx; clear hnx nx))
          all_goals first
            | (exfalso
               omega)
            | (refine hfin _ _ (Fin_span2 (by (try simp only [fr_getD_cons, Nat.reduceEqDiff, Nat.reduceLT, ↓reduceIte]); first | done | rfl) (by (try simp only [look, hnm, ↓reduceIte]); first | done | rfl) rfl ?_); simp only [List.getD_cons_zero, List.getD_cons_succ, fr_getD_cons, fr_getD_nil, Nat.reduceEqDiff, Nat.reduceLT, ↓reduceIte]; first | trivial | exact ⟨rfl, by trivial⟩ | (simp; done) | (simp; omega))
end Go.PM
