/- The contracts of the functions that make texts of hashes. Conditions: none but those that each names. -/
import Derived.Test.YtoekafodjjeboaaDoorHh
set_option linter.unusedSimpArgs false
set_option linter.unusedVariables false
namespace Go.PM
open Go.Proofs
attribute [local irreducible] W PCalls pcall pcallI WL

theorem pb_flat {l : List UInt8} (m : Int) (cs : List PV) : ∀ u ∈ l.map pbyte, frz1 m cs u = u ∧ u.one = true := by
  intro u hu
  obtain ⟨x, _, rfl⟩ := List.mem_map.1 hu
  exact ⟨rfl, rfl⟩

set_option maxRecDepth 100000 in
set_option maxHeartbeats 8000000 in
theorem b32_c (G : Globs) (h : List UInt8) (hh : h.length = 32) : PCalls Tryd.prog G 20 [.agg (h.map pbyte)] [] (fun res H => res = pstr h ∧ H = []) := by
  have h1 := all_one_byte h
  have hl : (h.map pbyte).length = 32 := by rw [List.length_map, hh]
  (refine PCalls_f Tryd.func20 rfl Tryd.ntmps20 Tryd.results20 (by simp) fun fin hfin => ?_; have hnm : True := trivial; simp (maxSteps := 2000000) (disch := omega) only [↓popG_eq, ↓pop.eq_1, ↓List.getElem?_map, ↓List.getElem?_cons_zero, ↓List.getElem?_cons_succ, pbuiltin, opnd, constPV, PState.put, fr_set, fr_getD_nil, fr_same, fr_other, layFrom, List.set, pnck, pguard_tt, pguard_tf, pguard_ft, pguard_ff, seqK, blockK, scopeK, List.map_cons, List.map_nil, List.getD_cons_zero, List.getD_cons_succ, List.getD_nil, List.getElem?_nil, Option.join_some, Option.join_none, pbin, pun, ppick, plen, pldop, pload, pfaddr, piaddr, pindex, pfield, pslice, pbound, pconv, pelems, pextract, pmm, parr, pbuild, pfill, PV.mem?, PV.one, PV.cells, pageq, peqs, peq1, palloc, pbox, pbuildS, pmakes, pstore, pappend, pcopy, pbytes, pmark, psrc, vcells, Value.oneCell', look, upd, del, names, Option.map_some, Option.map_none, List.length_cons, List.length_nil, List.all_cons, List.all_nil, Bool.and_true, Bool.true_and, Bool.not_true, Bool.not_false, List.take_zero, List.drop_zero, List.nil_append, List.cons_append, List.append_nil, Nat.reduceAdd, Nat.reduceMul, Nat.reduceSub, Nat.reduceLeDiff, Nat.reduceEqDiff, Nat.zero_add, Nat.add_zero, Nat.mul_one, Nat.zero_mul, List.drop_succ_cons, List.take_succ_cons, List.drop_nil, List.take_nil, ↓reduceIte, ne_eq, true_and, and_true, not_false_eq_true, reduceCtorEq, forall_const, List.toList_toArray, times, List.replicate_succ, List.replicate_zero, List.flatten_cons, List.flatten_nil, Value.cells, Int.toNat_natCast, Int.toNat_zero, Int.toNat_one, bl_mk, bl_lit, wr64, toNat_add1, toNat_sub1, map_getD, Int.natCast_nonneg, List.length_map, Bool.not_not, List.not_mem_nil, Option.some.injEq, exists_and_left, exists_eq_left', Int.cast_ofNat_Int, Int.natCast_zero, eq_self, List.size_toArray, Nat.reduceLT, Int.reduceLT, Int.reduceLE, Int.reduceToNat, Int.reduceAdd, Int.reduceSub, Int.reduceNeg, decide_true, decide_false, List.length_take, List.length_append, List.length_drop, hnm, Tryd.tf0, Tryd.tf1, Tryd.tf3, Tryd.tf4, Tryd.tf5, Tryd.tf9, Tryd.tf22, Tryd.tf24, Tryd.teq24, Tryd.teq30, Tryd.teq31, Tryd.teq43, Tryd.teq44, Tryd.teq48, Tryd.teq54, Tryd.teq63])
  repeat' (first
    | (with_reducible apply W_seq_k; intro nx hnx)
    | with_reducible apply W_block
    | with_reducible apply W_scope
    | (with_reducible refine W_prune 31 ?_; simp only [prune_cons, prune_nil, Nat.reducePow, Nat.reduceDiv, Nat.reduceMod, Nat.reduceBEq, cond_true, cond_false]; with_reducible apply W_region_l)
    | ((first | (with_reducible apply WL_op; intro nx hnx) | with_reducible refine Ev_out ?_ | (with_reducible refine pfresh_k hnm fun nm hnm => ?_; (try simp only [List.forall_mem_cons, List.not_mem_nil, false_implies, implies_true, and_true, true_and, ne_eq] at hnm))); try (simp (maxSteps := 2000000) (disch := omega) only [↓popG_eq, ↓pop.eq_1, ↓List.getElem?_map, ↓List.getElem?_cons_zero, ↓List.getElem?_cons_succ, pbuiltin, opnd, constPV, PState.put, fr_set, fr_getD_nil, fr_same, fr_other, layFrom, List.set, pnck, pguard_tt, pguard_tf, pguard_ft, pguard_ff, seqK, blockK, scopeK, List.map_cons, List.map_nil, List.getD_cons_zero, List.getD_cons_succ, List.getD_nil, List.getElem?_nil, Option.join_some, Option.join_none, pbin, pun, ppick, plen, pldop, pload, pfaddr, piaddr, pindex, pfield, pslice, pbound, pconv, pelems, pextract, pmm, parr, pbuild, pfill, PV.mem?, PV.one, PV.cells, pageq, peqs, peq1, palloc, pbox, pbuildS, pmakes, pstore, pappend, pcopy, pbytes, pmark, psrc, vcells, Value.oneCell', look, upd, del, names, Option.map_some, Option.map_none, List.length_cons, List.length_nil, List.all_cons, List.all_nil, Bool.and_true, Bool.true_and, Bool.not_true, Bool.not_false, List.take_zero, List.drop_zero, List.nil_append, List.cons_append, List.append_nil, Nat.reduceAdd, Nat.reduceMul, Nat.reduceSub, Nat.reduceLeDiff, Nat.reduceEqDiff, Nat.zero_add, Nat.add_zero, Nat.mul_one, Nat.zero_mul, List.drop_succ_cons, List.take_succ_cons, List.drop_nil, List.take_nil, ↓reduceIte, ne_eq, true_and, and_true, not_false_eq_true, reduceCtorEq, forall_const, List.toList_toArray, times, List.replicate_succ, List.replicate_zero, List.flatten_cons, List.flatten_nil, Value.cells, Int.toNat_natCast, Int.toNat_zero, Int.toNat_one, bl_mk, bl_lit, wr64, toNat_add1, toNat_sub1, map_getD, Int.natCast_nonneg, List.length_map, Bool.not_not, List.not_mem_nil, Option.some.injEq, exists_and_left, exists_eq_left', Int.cast_ofNat_Int, Int.natCast_zero, eq_self, List.size_toArray, Nat.reduceLT, Int.reduceLT, Int.reduceLE, Int.reduceToNat, Int.reduceAdd, Int.reduceSub, Int.reduceNeg, decide_true, decide_false, List.length_take, List.length_append, List.length_drop, hnm, Tryd.tf0, Tryd.tf1, Tryd.tf3, Tryd.tf4, Tryd.tf5, Tryd.tf9, Tryd.tf22, Tryd.tf24, Tryd.teq24, Tryd.teq30, Tryd.teq31, Tryd.teq43, Tryd.teq44, Tryd.teq48, Tryd.teq54, Tryd.teq63, hl, h1]); repeat (refine And.intro (by omega) ?_))
    | ((first | with_reducible apply WL_nil | with_reducible apply W_label | with_reducible apply W_skip | with_reducible apply W_exit | with_reducible apply W_ret); try simp only [seqK, blockK, scopeK, ↓reduceIte, Nat.reduceEqDiff])
    | (with_reducible apply W_cond_k; intro _ _ ea eb; (simp only [condK, not_true_eq_false, not_false_eq_true, opnd, constPV, List.getD_cons_zero, List.getD_cons_succ, fr_getD_cons, fr_getD_nil, Nat.reduceEqDiff, Nat.reduceLT, ↓reduceIte, decide_eq_true_eq, decide_eq_false_iff_not, reduceCtorEq, false_implies, true_implies, and_true, true_and, Bool.not_eq_true, Bool.not_eq_false, forall_const, bne_iff_ne, bne_eq_false_iff_eq, beq_iff_eq, beq_eq_false_iff_ne, ne_eq, Decidable.not_not, Bool.not_eq_eq_eq_not, Bool.not_true, Bool.not_false, Bool.and_eq_true, Bool.or_eq_true, Int.natCast_inj, Bool.and_eq_false_iff, Bool.or_eq_false_iff]); subst ea eb; first | (refine ⟨fun hc => ?_, fun hc => ?_⟩ <;> first | (exfalso; omega) | (exfalso; exact hc trivial) | skip) | skip)
    | (with_reducible apply hnx; clear hnx nx)
    | (with_reducible refine And.intro (by omega) ?_)
    | (with_reducible refine And.intro ?_ ?_)
    | (clear hnx nx; with_reducible apply hnx; clear hnx nx)
    | (clear hnx nx; clear hnx nx; with_reducible apply hnx; clear hnx nx)
    | (clear hnx nx; clear hnx nx; clear hnx nx; with_reducible apply hnx; clear hnx nx))
  refine W_adopt_f 3 5 1 (by simp only [fr_getD_cons, Nat.reduceEqDiff, Nat.reduceLT, ↓reduceIte]) fun D0 hD0 => ?_
  obtain ⟨N1, hN1⟩ : ∃ N, N = nm := ⟨_, rfl⟩
  subst hN1
  have hD : ¬ D0 = N1 := by simpa [names] using hD0
  refine W_loop_k (fun z τ => ∃ (i : Nat) (N : Int) (o : List UInt8), i ≤ 32 ∧ z = 32 - i ∧ o = h.take i ∧ ¬ N = N1 ∧ τ = ⟨fr 17 [(3, .row N 1 o.length), (1, .ptr N1 0), (4, pint .i64 i)], [(N, ⟨5, true, 1, o.map pbyte⟩), (N1, ⟨24, false, 0, h.map pbyte⟩)]⟩) 32
    ⟨fr 17 [(3, .row D0 1 0), (1, .ptr N1 0), (4, pint .i64 (0 : Nat))], [(D0, ⟨5, true, 1, []⟩), (N1, ⟨24, false, 0, h.map pbyte⟩)]⟩ (by
    refine Wk_fr (by simp only [List.forall_mem_cons, List.not_mem_nil, false_implies, implies_true, and_true, true_and, and_self, fr_getD_cons, fr_getD_nil, Nat.reduceEqDiff, Nat.reduceLT, ↓reduceIte, Int.natCast_add, Int.cast_ofNat_Int, Int.natCast_zero]) ?_
    exact ⟨by simp, by simpa [names] using hD⟩) ⟨0, D0, [], by omega, by omega, by simp, hD, rfl⟩ ?_
  rintro z τ ⟨i, N, o, hi, rfl, ho, hN, rfl⟩ lp hlp
  clear hnm
  have hnm : ¬ N = N1 ∧ ¬ N1 = N := ⟨hN, fun e => hN e.symm⟩
  have hol : o.length = i := by rw [ho, List.length_take]; omega
  by_cases hik : i < 32
  · obtain ⟨x, hg⟩ : ∃ x, h[i]? = some x := ⟨_, List.getElem?_eq_getElem (show i < h.length by omega)⟩
    have hg2 : h[i]'(by omega) = x := by
      rw [List.getElem?_eq_getElem (by omega)] at hg
      exact Option.some.inj hg
    have htk : h.take (i + 1) = h.take i ++ [x] := by
      rw [List.take_add_one, hg]
      rfl
    repeat' (first
    | (with_reducible apply W_seq_k; intro nx hnx)
    | with_reducible apply W_block
    | with_reducible apply W_scope
    | (with_reducible refine W_prune 31 ?_; simp only [prune_cons, prune_nil, Nat.reducePow, Nat.reduceDiv, Nat.reduceMod, Nat.reduceBEq, cond_true, cond_false]; with_reducible apply W_region_l)
    | ((first | (with_reducible apply WL_op; intro nx hnx) | with_reducible refine Ev_out ?_ | (with_reducible refine pfresh_k hnm fun nm hnm => ?_; (try simp only [List.forall_mem_cons, List.not_mem_nil, false_implies, implies_true, and_true, true_and, ne_eq] at hnm))); try (simp (maxSteps := 2000000) (disch := omega) only [↓popG_eq, ↓pop.eq_1, ↓List.getElem?_map, ↓List.getElem?_cons_zero, ↓List.getElem?_cons_succ, pbuiltin, opnd, constPV, PState.put, fr_set, fr_getD_nil, fr_same, fr_other, layFrom, List.set, pnck, pguard_tt, pguard_tf, pguard_ft, pguard_ff, seqK, blockK, scopeK, List.map_cons, List.map_nil, List.getD_cons_zero, List.getD_cons_succ, List.getD_nil, List.getElem?_nil, Option.join_some, Option.join_none, pbin, pun, ppick, plen, pldop, pload, pfaddr, piaddr, pindex, pfield, pslice, pbound, pconv, pelems, pextract, pmm, parr, pbuild, pfill, PV.mem?, PV.one, PV.cells, pageq, peqs, peq1, palloc, pbox, pbuildS, pmakes, pstore, pappend, pcopy, pbytes, pmark, psrc, vcells, Value.oneCell', look, upd, del, names, Option.map_some, Option.map_none, List.length_cons, List.length_nil, List.all_cons, List.all_nil, Bool.and_true, Bool.true_and, Bool.not_true, Bool.not_false, List.take_zero, List.drop_zero, List.nil_append, List.cons_append, List.append_nil, Nat.reduceAdd, Nat.reduceMul, Nat.reduceSub, Nat.reduceLeDiff, Nat.reduceEqDiff, Nat.zero_add, Nat.add_zero, Nat.mul_one, Nat.zero_mul, List.drop_succ_cons, List.take_succ_cons, List.drop_nil, List.take_nil, ↓reduceIte, ne_eq, true_and, and_true, not_false_eq_true, reduceCtorEq, forall_const, List.toList_toArray, times, List.replicate_succ, List.replicate_zero, List.flatten_cons, List.flatten_nil, Value.cells, Int.toNat_natCast, Int.toNat_zero, Int.toNat_one, bl_mk, bl_lit, wr64, toNat_add1, toNat_sub1, map_getD, Int.natCast_nonneg, List.length_map, Bool.not_not, List.not_mem_nil, Option.some.injEq, exists_and_left, exists_eq_left', Int.cast_ofNat_Int, Int.natCast_zero, eq_self, List.size_toArray, Nat.reduceLT, Int.reduceLT, Int.reduceLE, Int.reduceToNat, Int.reduceAdd, Int.reduceSub, Int.reduceNeg, decide_true, decide_false, List.length_take, List.length_append, List.length_drop, hnm, Tryd.tf0, Tryd.tf1, Tryd.tf3, Tryd.tf4, Tryd.tf5, Tryd.tf9, Tryd.tf22, Tryd.tf24, Tryd.teq24, Tryd.teq30, Tryd.teq31, Tryd.teq43, Tryd.teq44, Tryd.teq48, Tryd.teq54, Tryd.teq63, hl, hg, hg2]); repeat (refine And.intro (by omega) ?_))
    | ((first | with_reducible apply WL_nil | with_reducible apply W_label | with_reducible apply W_skip | with_reducible apply W_exit | with_reducible apply W_ret); try simp only [seqK, blockK, scopeK, ↓reduceIte, Nat.reduceEqDiff])
    | (with_reducible apply W_cond_k; intro _ _ ea eb; (simp only [condK, not_true_eq_false, not_false_eq_true, opnd, constPV, List.getD_cons_zero, List.getD_cons_succ, fr_getD_cons, fr_getD_nil, Nat.reduceEqDiff, Nat.reduceLT, ↓reduceIte, decide_eq_true_eq, decide_eq_false_iff_not, reduceCtorEq, false_implies, true_implies, and_true, true_and, Bool.not_eq_true, Bool.not_eq_false, forall_const, bne_iff_ne, bne_eq_false_iff_eq, beq_iff_eq, beq_eq_false_iff_ne, ne_eq, Decidable.not_not, Bool.not_eq_eq_eq_not, Bool.not_true, Bool.not_false, Bool.and_eq_true, Bool.or_eq_true, Int.natCast_inj, Bool.and_eq_false_iff, Bool.or_eq_false_iff]); subst ea eb; first | (refine ⟨fun hc => ?_, fun hc => ?_⟩ <;> first | (exfalso; omega) | (exfalso; exact hc trivial) | skip) | skip)
    | (with_reducible apply hnx; clear hnx nx)
    | (with_reducible refine And.intro (by omega) ?_)
    | (with_reducible refine And.intro ?_ ?_)
    | (clear hnx nx; with_reducible apply hnx; clear hnx nx)
    | (clear hnx nx; clear hnx nx; with_reducible apply hnx; clear hnx nx)
    | (clear hnx nx; clear hnx nx; clear hnx nx; with_reducible apply hnx; clear hnx nx))
    all_goals first
      | (exfalso
         omega)
      | (refine hlp _ (32 - (i + 1)) _ (by omega) ?_ ⟨i + 1, nm, o ++ [x], by omega, rfl, by rw [htk, ho], by simp [hnm], rfl⟩
         rw [List.length_append, List.map_append]
         refine Wk_fr (by simp only [List.forall_mem_cons, List.not_mem_nil, false_implies, implies_true, and_true, true_and, and_self, fr_getD_cons, fr_getD_nil, Nat.reduceEqDiff, Nat.reduceLT, ↓reduceIte, Int.natCast_add, Int.cast_ofNat_Int, Int.natCast_zero, List.length_cons, List.length_nil, Nat.zero_add]) ?_
         exact ⟨by simp, by simp [names, hnm]⟩)
  · have hoh : o = h := by rw [ho, List.take_of_length_le (by omega)]
    subst hoh
    have hb1 := isByte_pb o
    have hb2 := unb_pb o
    have htu : List.take o.length (o.map pbyte) = o.map pbyte := List.take_of_length_le (by simp)
    refine W_x (τ := ⟨fr 17 [(3, .list 1 (o.map pbyte)), (1, .ptr N1 0), (4, pint .i64 i)], [(N1, ⟨24, false, 0, o.map pbyte⟩)]⟩) (by
      have hw := Wx_bornH (G := G) (I := []) (N := 17) (d := 3) (L := [(1, .ptr N1 0), (4, pint .i64 i)]) (n := N) (e := 5) (es := 1) (len := o.length) (cells := o.map pbyte) (H := [(N1, ⟨24, false, 0, o.map pbyte⟩)]) (by simp) (by simp) (by simp [frz, frz1, hnm]) (by
        simp only [List.forall_mem_cons, List.not_mem_nil, false_implies, implies_true, and_true]
        exact ⟨by simp [hnm], pb_flat N _⟩)
      rwa [elemsOf_one (by simp), htu] at hw) ?_
    repeat' (first
    | (with_reducible apply W_seq_k; intro nx hnx)
    | with_reducible apply W_block
    | with_reducible apply W_scope
    | (with_reducible refine W_prune 31 ?_; simp only [prune_cons, prune_nil, Nat.reducePow, Nat.reduceDiv, Nat.reduceMod, Nat.reduceBEq, cond_true, cond_false]; with_reducible apply W_region_l)
    | ((first | (with_reducible apply WL_op; intro nx hnx) | with_reducible refine Ev_out ?_ | (with_reducible refine pfresh_k hnm fun nm hnm => ?_; (try simp only [List.forall_mem_cons, List.not_mem_nil, false_implies, implies_true, and_true, true_and, ne_eq] at hnm))); try (simp (maxSteps := 2000000) (disch := omega) only [↓popG_eq, ↓pop.eq_1, ↓List.getElem?_map, ↓List.getElem?_cons_zero, ↓List.getElem?_cons_succ, pbuiltin, opnd, constPV, PState.put, fr_set, fr_getD_nil, fr_same, fr_other, layFrom, List.set, pnck, pguard_tt, pguard_tf, pguard_ft, pguard_ff, seqK, blockK, scopeK, List.map_cons, List.map_nil, List.getD_cons_zero, List.getD_cons_succ, List.getD_nil, List.getElem?_nil, Option.join_some, Option.join_none, pbin, pun, ppick, plen, pldop, pload, pfaddr, piaddr, pindex, pfield, pslice, pbound, pconv, pelems, pextract, pmm, parr, pbuild, pfill, PV.mem?, PV.one, PV.cells, pageq, peqs, peq1, palloc, pbox, pbuildS, pmakes, pstore, pappend, pcopy, pbytes, pmark, psrc, vcells, Value.oneCell', look, upd, del, names, Option.map_some, Option.map_none, List.length_cons, List.length_nil, List.all_cons, List.all_nil, Bool.and_true, Bool.true_and, Bool.not_true, Bool.not_false, List.take_zero, List.drop_zero, List.nil_append, List.cons_append, List.append_nil, Nat.reduceAdd, Nat.reduceMul, Nat.reduceSub, Nat.reduceLeDiff, Nat.reduceEqDiff, Nat.zero_add, Nat.add_zero, Nat.mul_one, Nat.zero_mul, List.drop_succ_cons, List.take_succ_cons, List.drop_nil, List.take_nil, ↓reduceIte, ne_eq, true_and, and_true, not_false_eq_true, reduceCtorEq, forall_const, List.toList_toArray, times, List.replicate_succ, List.replicate_zero, List.flatten_cons, List.flatten_nil, Value.cells, Int.toNat_natCast, Int.toNat_zero, Int.toNat_one, bl_mk, bl_lit, wr64, toNat_add1, toNat_sub1, map_getD, Int.natCast_nonneg, List.length_map, Bool.not_not, List.not_mem_nil, Option.some.injEq, exists_and_left, exists_eq_left', Int.cast_ofNat_Int, Int.natCast_zero, eq_self, List.size_toArray, Nat.reduceLT, Int.reduceLT, Int.reduceLE, Int.reduceToNat, Int.reduceAdd, Int.reduceSub, Int.reduceNeg, decide_true, decide_false, List.length_take, List.length_append, List.length_drop, hnm, Tryd.tf0, Tryd.tf1, Tryd.tf3, Tryd.tf4, Tryd.tf5, Tryd.tf9, Tryd.tf22, Tryd.tf24, Tryd.teq24, Tryd.teq30, Tryd.teq31, Tryd.teq43, Tryd.teq44, Tryd.teq48, Tryd.teq54, Tryd.teq63, hb1, hb2]); repeat (refine And.intro (by omega) ?_))
    | ((first | with_reducible apply WL_nil | with_reducible apply W_label | with_reducible apply W_skip | with_reducible apply W_exit | with_reducible apply W_ret); try simp only [seqK, blockK, scopeK, ↓reduceIte, Nat.reduceEqDiff])
    | (with_reducible apply W_cond_k; intro _ _ ea eb; (simp only [condK, not_true_eq_false, not_false_eq_true, opnd, constPV, List.getD_cons_zero, List.getD_cons_succ, fr_getD_cons, fr_getD_nil, Nat.reduceEqDiff, Nat.reduceLT, ↓reduceIte, decide_eq_true_eq, decide_eq_false_iff_not, reduceCtorEq, false_implies, true_implies, and_true, true_and, Bool.not_eq_true, Bool.not_eq_false, forall_const, bne_iff_ne, bne_eq_false_iff_eq, beq_iff_eq, beq_eq_false_iff_ne, ne_eq, Decidable.not_not, Bool.not_eq_eq_eq_not, Bool.not_true, Bool.not_false, Bool.and_eq_true, Bool.or_eq_true, Int.natCast_inj, Bool.and_eq_false_iff, Bool.or_eq_false_iff]); subst ea eb; first | (refine ⟨fun hc => ?_, fun hc => ?_⟩ <;> first | (exfalso; omega) | (exfalso; exact hc trivial) | skip) | skip)
    | (with_reducible apply hnx; clear hnx nx)
    | (with_reducible refine And.intro (by omega) ?_)
    | (with_reducible refine And.intro ?_ ?_)
    | (clear hnx nx; with_reducible apply hnx; clear hnx nx)
    | (clear hnx nx; clear hnx nx; with_reducible apply hnx; clear hnx nx)
    | (clear hnx nx; clear hnx nx; clear hnx nx; with_reducible apply hnx; clear hnx nx))
    all_goals first
      | exact rfl
      | (exfalso
         omega)
      | (refine hfin _ _ (Fin_ret1 rfl (Sub_nil _) ?_); simp only [List.getD_cons_zero, List.getD_cons_succ, fr_getD_cons, fr_getD_nil, Nat.reduceEqDiff, Nat.reduceLT, ↓reduceIte]; first | trivial | exact ⟨rfl, by trivial⟩ | (simp; done) | (simp; omega))

set_option maxRecDepth 100000 in
set_option maxHeartbeats 8000000 in
theorem text_c (G : Globs) (h : List UInt8) (hh : h.length = 16) : PCalls Tryd.prog G 26 [.agg (h.map pbyte)] [] (fun res H => res = pstr h ∧ H = []) := by
  have h1 := all_one_byte h
  have hl : (h.map pbyte).length = 16 := by rw [List.length_map, hh]
  (refine PCalls_f Tryd.func26 rfl Tryd.ntmps26 Tryd.results26 (by simp) fun fin hfin => ?_; have hnm : True := trivial; simp (maxSteps := 2000000) (disch := omega) only [↓popG_eq, ↓pop.eq_1, ↓List.getElem?_map, ↓List.getElem?_cons_zero, ↓List.getElem?_cons_succ, pbuiltin, opnd, constPV, PState.put, fr_set, fr_getD_nil, fr_same, fr_other, layFrom, List.set, pnck, pguard_tt, pguard_tf, pguard_ft, pguard_ff, seqK, blockK, scopeK, List.map_cons, List.map_nil, List.getD_cons_zero, List.getD_cons_succ, List.getD_nil, List.getElem?_nil, Option.join_some, Option.join_none, pbin, pun, ppick, plen, pldop, pload, pfaddr, piaddr, pindex, pfield, pslice, pbound, pconv, pelems, pextract, pmm, parr, pbuild, pfill, PV.mem?, PV.one, PV.cells, pageq, peqs, peq1, palloc, pbox, pbuildS, pmakes, pstore, pappend, pcopy, pbytes, pmark, psrc, vcells, Value.oneCell', look, upd, del, names, Option.map_some, Option.map_none, List.length_cons, List.length_nil, List.all_cons, List.all_nil, Bool.and_true, Bool.true_and, Bool.not_true, Bool.not_false, List.take_zero, List.drop_zero, List.nil_append, List.cons_append, List.append_nil, Nat.reduceAdd, Nat.reduceMul, Nat.reduceSub, Nat.reduceLeDiff, Nat.reduceEqDiff, Nat.zero_add, Nat.add_zero, Nat.mul_one, Nat.zero_mul, List.drop_succ_cons, List.take_succ_cons, List.drop_nil, List.take_nil, ↓reduceIte, ne_eq, true_and, and_true, not_false_eq_true, reduceCtorEq, forall_const, List.toList_toArray, times, List.replicate_succ, List.replicate_zero, List.flatten_cons, List.flatten_nil, Value.cells, Int.toNat_natCast, Int.toNat_zero, Int.toNat_one, bl_mk, bl_lit, wr64, toNat_add1, toNat_sub1, map_getD, Int.natCast_nonneg, List.length_map, Bool.not_not, List.not_mem_nil, Option.some.injEq, exists_and_left, exists_eq_left', Int.cast_ofNat_Int, Int.natCast_zero, eq_self, List.size_toArray, Nat.reduceLT, Int.reduceLT, Int.reduceLE, Int.reduceToNat, Int.reduceAdd, Int.reduceSub, Int.reduceNeg, decide_true, decide_false, List.length_take, List.length_append, List.length_drop, hnm, Tryd.tf0, Tryd.tf1, Tryd.tf3, Tryd.tf4, Tryd.tf5, Tryd.tf9, Tryd.tf22, Tryd.teq24, Tryd.teq30, Tryd.teq31, Tryd.teq43, Tryd.tf44, Tryd.teq44, Tryd.teq48, Tryd.teq54, Tryd.teq63])
  repeat' (first
    | (with_reducible apply W_seq_k; intro nx hnx)
    | with_reducible apply W_block
    | with_reducible apply W_scope
    | (with_reducible refine W_prune 31 ?_; simp only [prune_cons, prune_nil, Nat.reducePow, Nat.reduceDiv, Nat.reduceMod, Nat.reduceBEq, cond_true, cond_false]; with_reducible apply W_region_l)
    | ((first | (with_reducible apply WL_op; intro nx hnx) | with_reducible refine Ev_out ?_ | (with_reducible refine pfresh_k hnm fun nm hnm => ?_; (try simp only [List.forall_mem_cons, List.not_mem_nil, false_implies, implies_true, and_true, true_and, ne_eq] at hnm))); try (simp (maxSteps := 2000000) (disch := omega) only [↓popG_eq, ↓pop.eq_1, ↓List.getElem?_map, ↓List.getElem?_cons_zero, ↓List.getElem?_cons_succ, pbuiltin, opnd, constPV, PState.put, fr_set, fr_getD_nil, fr_same, fr_other, layFrom, List.set, pnck, pguard_tt, pguard_tf, pguard_ft, pguard_ff, seqK, blockK, scopeK, List.map_cons, List.map_nil, List.getD_cons_zero, List.getD_cons_succ, List.getD_nil, List.getElem?_nil, Option.join_some, Option.join_none, pbin, pun, ppick, plen, pldop, pload, pfaddr, piaddr, pindex, pfield, pslice, pbound, pconv, pelems, pextract, pmm, parr, pbuild, pfill, PV.mem?, PV.one, PV.cells, pageq, peqs, peq1, palloc, pbox, pbuildS, pmakes, pstore, pappend, pcopy, pbytes, pmark, psrc, vcells, Value.oneCell', look, upd, del, names, Option.map_some, Option.map_none, List.length_cons, List.length_nil, List.all_cons, List.all_nil, Bool.and_true, Bool.true_and, Bool.not_true, Bool.not_false, List.take_zero, List.drop_zero, List.nil_append, List.cons_append, List.append_nil, Nat.reduceAdd, Nat.reduceMul, Nat.reduceSub, Nat.reduceLeDiff, Nat.reduceEqDiff, Nat.zero_add, Nat.add_zero, Nat.mul_one, Nat.zero_mul, List.drop_succ_cons, List.take_succ_cons, List.drop_nil, List.take_nil, ↓reduceIte, ne_eq, true_and, and_true, not_false_eq_true, reduceCtorEq, forall_const, List.toList_toArray, times, List.replicate_succ, List.replicate_zero, List.flatten_cons, List.flatten_nil, Value.cells, Int.toNat_natCast, Int.toNat_zero, Int.toNat_one, bl_mk, bl_lit, wr64, toNat_add1, toNat_sub1, map_getD, Int.natCast_nonneg, List.length_map, Bool.not_not, List.not_mem_nil, Option.some.injEq, exists_and_left, exists_eq_left', Int.cast_ofNat_Int, Int.natCast_zero, eq_self, List.size_toArray, Nat.reduceLT, Int.reduceLT, Int.reduceLE, Int.reduceToNat, Int.reduceAdd, Int.reduceSub, Int.reduceNeg, decide_true, decide_false, List.length_take, List.length_append, List.length_drop, hnm, Tryd.tf0, Tryd.tf1, Tryd.tf3, Tryd.tf4, Tryd.tf5, Tryd.tf9, Tryd.tf22, Tryd.teq24, Tryd.teq30, Tryd.teq31, Tryd.teq43, Tryd.tf44, Tryd.teq44, Tryd.teq48, Tryd.teq54, Tryd.teq63, hl, h1]); repeat (refine And.intro (by omega) ?_))
    | ((first | with_reducible apply WL_nil | with_reducible apply W_label | with_reducible apply W_skip | with_reducible apply W_exit | with_reducible apply W_ret); try simp only [seqK, blockK, scopeK, ↓reduceIte, Nat.reduceEqDiff])
    | (with_reducible apply W_cond_k; intro _ _ ea eb; (simp only [condK, not_true_eq_false, not_false_eq_true, opnd, constPV, List.getD_cons_zero, List.getD_cons_succ, fr_getD_cons, fr_getD_nil, Nat.reduceEqDiff, Nat.reduceLT, ↓reduceIte, decide_eq_true_eq, decide_eq_false_iff_not, reduceCtorEq, false_implies, true_implies, and_true, true_and, Bool.not_eq_true, Bool.not_eq_false, forall_const, bne_iff_ne, bne_eq_false_iff_eq, beq_iff_eq, beq_eq_false_iff_ne, ne_eq, Decidable.not_not, Bool.not_eq_eq_eq_not, Bool.not_true, Bool.not_false, Bool.and_eq_true, Bool.or_eq_true, Int.natCast_inj, Bool.and_eq_false_iff, Bool.or_eq_false_iff]); subst ea eb; first | (refine ⟨fun hc => ?_, fun hc => ?_⟩ <;> first | (exfalso; omega) | (exfalso; exact hc trivial) | skip) | skip)
    | (with_reducible apply hnx; clear hnx nx)
    | (with_reducible refine And.intro (by omega) ?_)
    | (with_reducible refine And.intro ?_ ?_)
    | (clear hnx nx; with_reducible apply hnx; clear hnx nx)
    | (clear hnx nx; clear hnx nx; with_reducible apply hnx; clear hnx nx)
    | (clear hnx nx; clear hnx nx; clear hnx nx; with_reducible apply hnx; clear hnx nx))
  refine W_adopt_f 3 5 1 (by simp only [fr_getD_cons, Nat.reduceEqDiff, Nat.reduceLT, ↓reduceIte]) fun D0 hD0 => ?_
  obtain ⟨N1, hN1⟩ : ∃ N, N = nm := ⟨_, rfl⟩
  subst hN1
  have hD : ¬ D0 = N1 := by simpa [names] using hD0
  refine W_loop_k (fun z τ => ∃ (i : Nat) (N : Int) (o : List UInt8), i ≤ 16 ∧ z = 16 - i ∧ o = h.take i ∧ ¬ N = N1 ∧ τ = ⟨fr 17 [(3, .row N 1 o.length), (1, .ptr N1 0), (4, pint .i64 i)], [(N, ⟨5, true, 1, o.map pbyte⟩), (N1, ⟨44, false, 0, h.map pbyte⟩)]⟩) 16
    ⟨fr 17 [(3, .row D0 1 0), (1, .ptr N1 0), (4, pint .i64 (0 : Nat))], [(D0, ⟨5, true, 1, []⟩), (N1, ⟨44, false, 0, h.map pbyte⟩)]⟩ (by
    refine Wk_fr (by simp only [List.forall_mem_cons, List.not_mem_nil, false_implies, implies_true, and_true, true_and, and_self, fr_getD_cons, fr_getD_nil, Nat.reduceEqDiff, Nat.reduceLT, ↓reduceIte, Int.natCast_add, Int.cast_ofNat_Int, Int.natCast_zero]) ?_
    exact ⟨by simp, by simpa [names] using hD⟩) ⟨0, D0, [], by omega, by omega, by simp, hD, rfl⟩ ?_
  rintro z τ ⟨i, N, o, hi, rfl, ho, hN, rfl⟩ lp hlp
  clear hnm
  have hnm : ¬ N = N1 ∧ ¬ N1 = N := ⟨hN, fun e => hN e.symm⟩
  have hol : o.length = i := by rw [ho, List.length_take]; omega
  by_cases hik : i < 16
  · obtain ⟨x, hg⟩ : ∃ x, h[i]? = some x := ⟨_, List.getElem?_eq_getElem (show i < h.length by omega)⟩
    have hg2 : h[i]'(by omega) = x := by
      rw [List.getElem?_eq_getElem (by omega)] at hg
      exact Option.some.inj hg
    have htk : h.take (i + 1) = h.take i ++ [x] := by
      rw [List.take_add_one, hg]
      rfl
    repeat' (first
    | (with_reducible apply W_seq_k; intro nx hnx)
    | with_reducible apply W_block
    | with_reducible apply W_scope
    | (with_reducible refine W_prune 31 ?_; simp only [prune_cons, prune_nil, Nat.reducePow, Nat.reduceDiv, Nat.reduceMod, Nat.reduceBEq, cond_true, cond_false]; with_reducible apply W_region_l)
    | ((first | (with_reducible apply WL_op; intro nx hnx) | with_reducible refine Ev_out ?_ | (with_reducible refine pfresh_k hnm fun nm hnm => ?_; (try simp only [List.forall_mem_cons, List.not_mem_nil, false_implies, implies_true, and_true, true_and, ne_eq] at hnm))); try (simp (maxSteps := 2000000) (disch := omega) only [↓popG_eq, ↓pop.eq_1, ↓List.getElem?_map, ↓List.getElem?_cons_zero, ↓List.getElem?_cons_succ, pbuiltin, opnd, constPV, PState.put, fr_set, fr_getD_nil, fr_same, fr_other, layFrom, List.set, pnck, pguard_tt, pguard_tf, pguard_ft, pguard_ff, seqK, blockK, scopeK, List.map_cons, List.map_nil, List.getD_cons_zero, List.getD_cons_succ, List.getD_nil, List.getElem?_nil, Option.join_some, Option.join_none, pbin, pun, ppick, plen, pldop, pload, pfaddr, piaddr, pindex, pfield, pslice, pbound, pconv, pelems, pextract, pmm, parr, pbuild, pfill, PV.mem?, PV.one, PV.cells, pageq, peqs, peq1, palloc, pbox, pbuildS, pmakes, pstore, pappend, pcopy, pbytes, pmark, psrc, vcells, Value.oneCell', look, upd, del, names, Option.map_some, Option.map_none, List.length_cons, List.length_nil, List.all_cons, List.all_nil, Bool.and_true, Bool.true_and, Bool.not_true, Bool.not_false, List.take_zero, List.drop_zero, List.nil_append, List.cons_append, List.append_nil, Nat.reduceAdd, Nat.reduceMul, Nat.reduceSub, Nat.reduceLeDiff, Nat.reduceEqDiff, Nat.zero_add, Nat.add_zero, Nat.mul_one, Nat.zero_mul, List.drop_succ_cons, List.take_succ_cons, List.drop_nil, List.take_nil, ↓reduceIte, ne_eq, true_and, and_true, not_false_eq_true, reduceCtorEq, forall_const, List.toList_toArray, times, List.replicate_succ, List.replicate_zero, List.flatten_cons, List.flatten_nil, Value.cells, Int.toNat_natCast, Int.toNat_zero, Int.toNat_one, bl_mk, bl_lit, wr64, toNat_add1, toNat_sub1, map_getD, Int.natCast_nonneg, List.length_map, Bool.not_not, List.not_mem_nil, Option.some.injEq, exists_and_left, exists_eq_left', Int.cast_ofNat_Int, Int.natCast_zero, eq_self, List.size_toArray, Nat.reduceLT, Int.reduceLT, Int.reduceLE, Int.reduceToNat, Int.reduceAdd, Int.reduceSub, Int.reduceNeg, decide_true, decide_false, List.length_take, List.length_append, List.length_drop, hnm, Tryd.tf0, Tryd.tf1, Tryd.tf3, Tryd.tf4, Tryd.tf5, Tryd.tf9, Tryd.tf22, Tryd.teq24, Tryd.teq30, Tryd.teq31, Tryd.teq43, Tryd.tf44, Tryd.teq44, Tryd.teq48, Tryd.teq54, Tryd.teq63, hl, hg, hg2]); repeat (refine And.intro (by omega) ?_))
    | ((first | with_reducible apply WL_nil | with_reducible apply W_label | with_reducible apply W_skip | with_reducible apply W_exit | with_reducible apply W_ret); try simp only [seqK, blockK, scopeK, ↓reduceIte, Nat.reduceEqDiff])
    | (with_reducible apply W_cond_k; intro _ _ ea eb; (simp only [condK, not_true_eq_false, not_false_eq_true, opnd, constPV, List.getD_cons_zero, List.getD_cons_succ, fr_getD_cons, fr_getD_nil, Nat.reduceEqDiff, Nat.reduceLT, ↓reduceIte, decide_eq_true_eq, decide_eq_false_iff_not, reduceCtorEq, false_implies, true_implies, and_true, true_and, Bool.not_eq_true, Bool.not_eq_false, forall_const, bne_iff_ne, bne_eq_false_iff_eq, beq_iff_eq, beq_eq_false_iff_ne, ne_eq, Decidable.not_not, Bool.not_eq_eq_eq_not, Bool.not_true, Bool.not_false, Bool.and_eq_true, Bool.or_eq_true, Int.natCast_inj, Bool.and_eq_false_iff, Bool.or_eq_false_iff]); subst ea eb; first | (refine ⟨fun hc => ?_, fun hc => ?_⟩ <;> first | (exfalso; omega) | (exfalso; exact hc trivial) | skip) | skip)
    | (with_reducible apply hnx; clear hnx nx)
    | (with_reducible refine And.intro (by omega) ?_)
    | (with_reducible refine And.intro ?_ ?_)
    | (clear hnx nx; with_reducible apply hnx; clear hnx nx)
    | (clear hnx nx; clear hnx nx; with_reducible apply hnx; clear hnx nx)
    | (clear hnx nx; clear hnx nx; clear hnx nx; with_reducible apply hnx; clear hnx nx))
    all_goals first
      | (exfalso
         omega)
      | (refine hlp _ (16 - (i + 1)) _ (by omega) ?_ ⟨i + 1, nm, o ++ [x], by omega, rfl, by rw [htk, ho], by simp [hnm], rfl⟩
         rw [List.length_append, List.map_append]
         refine Wk_fr (by simp only [List.forall_mem_cons, List.not_mem_nil, false_implies, implies_true, and_true, true_and, and_self, fr_getD_cons, fr_getD_nil, Nat.reduceEqDiff, Nat.reduceLT, ↓reduceIte, Int.natCast_add, Int.cast_ofNat_Int, Int.natCast_zero, List.length_cons, List.length_nil, Nat.zero_add]) ?_
         exact ⟨by simp, by simp [names, hnm]⟩)
  · have hoh : o = h := by rw [ho, List.take_of_length_le (by omega)]
    subst hoh
    have hb1 := isByte_pb o
    have hb2 := unb_pb o
    have htu : List.take o.length (o.map pbyte) = o.map pbyte := List.take_of_length_le (by simp)
    refine W_x (τ := ⟨fr 17 [(3, .list 1 (o.map pbyte)), (1, .ptr N1 0), (4, pint .i64 i)], [(N1, ⟨44, false, 0, o.map pbyte⟩)]⟩) (by
      have hw := Wx_bornH (G := G) (I := []) (N := 17) (d := 3) (L := [(1, .ptr N1 0), (4, pint .i64 i)]) (n := N) (e := 5) (es := 1) (len := o.length) (cells := o.map pbyte) (H := [(N1, ⟨44, false, 0, o.map pbyte⟩)]) (by simp) (by simp) (by simp [frz, frz1, hnm]) (by
        simp only [List.forall_mem_cons, List.not_mem_nil, false_implies, implies_true, and_true]
        exact ⟨by simp [hnm], pb_flat N _⟩)
      rwa [elemsOf_one (by simp), htu] at hw) ?_
    repeat' (first
    | (with_reducible apply W_seq_k; intro nx hnx)
    | with_reducible apply W_block
    | with_reducible apply W_scope
    | (with_reducible refine W_prune 31 ?_; simp only [prune_cons, prune_nil, Nat.reducePow, Nat.reduceDiv, Nat.reduceMod, Nat.reduceBEq, cond_true, cond_false]; with_reducible apply W_region_l)
    | ((first | (with_reducible apply WL_op; intro nx hnx) | with_reducible refine Ev_out ?_ | (with_reducible refine pfresh_k hnm fun nm hnm => ?_; (try simp only [List.forall_mem_cons, List.not_mem_nil, false_implies, implies_true, and_true, true_and, ne_eq] at hnm))); try (simp (maxSteps := 2000000) (disch := omega) only [↓popG_eq, ↓pop.eq_1, ↓List.getElem?_map, ↓List.getElem?_cons_zero, ↓List.getElem?_cons_succ, pbuiltin, opnd, constPV, PState.put, fr_set, fr_getD_nil, fr_same, fr_other, layFrom, List.set, pnck, pguard_tt, pguard_tf, pguard_ft, pguard_ff, seqK, blockK, scopeK, List.map_cons, List.map_nil, List.getD_cons_zero, List.getD_cons_succ, List.getD_nil, List.getElem?_nil, Option.join_some, Option.join_none, pbin, pun, ppick, plen, pldop, pload, pfaddr, piaddr, pindex, pfield, pslice, pbound, pconv, pelems, pextract, pmm, parr, pbuild, pfill, PV.mem?, PV.one, PV.cells, pageq, peqs, peq1, palloc, pbox, pbuildS, pmakes, pstore, pappend, pcopy, pbytes, pmark, psrc, vcells, Value.oneCell', look, upd, del, names, Option.map_some, Option.map_none, List.length_cons, List.length_nil, List.all_cons, List.all_nil, Bool.and_true, Bool.true_and, Bool.not_true, Bool.not_false, List.take_zero, List.drop_zero, List.nil_append, List.cons_append, List.append_nil, Nat.reduceAdd, Nat.reduceMul, Nat.reduceSub, Nat.reduceLeDiff, Nat.reduceEqDiff, Nat.zero_add, Nat.add_zero, Nat.mul_one, Nat.zero_mul, List.drop_succ_cons, List.take_succ_cons, List.drop_nil, List.take_nil, ↓reduceIte, ne_eq, true_and, and_true, not_false_eq_true, reduceCtorEq, forall_const, List.toList_toArray, times, List.replicate_succ, List.replicate_zero, List.flatten_cons, List.flatten_nil, Value.cells, Int.toNat_natCast, Int.toNat_zero, Int.toNat_one, bl_mk, bl_lit, wr64, toNat_add1, toNat_sub1, map_getD, Int.natCast_nonneg, List.length_map, Bool.not_not, List.not_mem_nil, Option.some.injEq, exists_and_left, exists_eq_left', Int.cast_ofNat_Int, Int.natCast_zero, eq_self, List.size_toArray, Nat.reduceLT, Int.reduceLT, Int.reduceLE, Int.reduceToNat, Int.reduceAdd, Int.reduceSub, Int.reduceNeg, decide_true, decide_false, List.length_take, List.length_append, List.length_drop, hnm, Tryd.tf0, Tryd.tf1, Tryd.tf3, Tryd.tf4, Tryd.tf5, Tryd.tf9, Tryd.tf22, Tryd.teq24, Tryd.teq30, Tryd.teq31, Tryd.teq43, Tryd.tf44, Tryd.teq44, Tryd.teq48, Tryd.teq54, Tryd.teq63, hb1, hb2]); repeat (refine And.intro (by omega) ?_))
    | ((first | with_reducible apply WL_nil | with_reducible apply W_label | with_reducible apply W_skip | with_reducible apply W_exit | with_reducible apply W_ret); try simp only [seqK, blockK, scopeK, ↓reduceIte, Nat.reduceEqDiff])
    | (with_reducible apply W_cond_k; intro _ _ ea eb; (simp only [condK, not_true_eq_false, not_false_eq_true, opnd, constPV, List.getD_cons_zero, List.getD_cons_succ, fr_getD_cons, fr_getD_nil, Nat.reduceEqDiff, Nat.reduceLT, ↓reduceIte, decide_eq_true_eq, decide_eq_false_iff_not, reduceCtorEq, false_implies, true_implies, and_true, true_and, Bool.not_eq_true, Bool.not_eq_false, forall_const, bne_iff_ne, bne_eq_false_iff_eq, beq_iff_eq, beq_eq_false_iff_ne, ne_eq, Decidable.not_not, Bool.not_eq_eq_eq_not, Bool.not_true, Bool.not_false, Bool.and_eq_true, Bool.or_eq_true, Int.natCast_inj, Bool.and_eq_false_iff, Bool.or_eq_false_iff]); subst ea eb; first | (refine ⟨fun hc => ?_, fun hc => ?_⟩ <;> first | (exfalso; omega) | (exfalso; exact hc trivial) | skip) | skip)
    | (with_reducible apply hnx; clear hnx nx)
    | (with_reducible refine And.intro (by omega) ?_)
    | (with_reducible refine And.intro ?_ ?_)
    | (clear hnx nx; with_reducible apply hnx; clear hnx nx)
    | (clear hnx nx; clear hnx nx; with_reducible apply hnx; clear hnx nx)
    | (clear hnx nx; clear hnx nx; clear hnx nx; with_reducible apply hnx; clear hnx nx))
    all_goals first
      | exact rfl
      | (exfalso
         omega)
      | (refine hfin _ _ (Fin_ret1 rfl (Sub_nil _) ?_); simp only [List.getD_cons_zero, List.getD_cons_succ, fr_getD_cons, fr_getD_nil, Nat.reduceEqDiff, Nat.reduceLT, ↓reduceIte]; first | trivial | exact ⟨rfl, by trivial⟩ | (simp; done) | (simp; omega))
end Go.PM
