/- The contract of Of. Conditions: none but those that each names. -/
import Derived.Test.YtoekafodjjeboaaDoorHn
set_option linter.unusedSimpArgs false
set_option linter.unusedVariables false
namespace Go.PM
open Go.Proofs
attribute [local irreducible] W PCalls pcall pcallI WL

theorem stC_len (t : List UInt8) : (stC t).length = 73 := by rw [stC_st3, st3_len (stS_len t) (qOf_len t)]
theorem stC_one (t : List UInt8) : (stC t).all PV.one = true := by rw [stC_st3]; exact st3_one
theorem stC_take (t : List UInt8) : List.take 73 (stC t) = stC t := List.take_of_length_le (by rw [stC_len]; exact Nat.le_refl _)
theorem stC_drop (t : List UInt8) : List.drop 73 (stC t) = [] := List.drop_of_length_le (by rw [stC_len]; exact Nat.le_refl _)
theorem isB1 (b : UInt8) : isByte (pint .u8 ((b.toNat : Nat) : Int)) = true := by
  have := b.toNat_lt
  simp [isByte]
  omega
attribute [local irreducible] stC

set_option maxRecDepth 100000 in
set_option maxHeartbeats 8000000 in
theorem hof_c (G : Globs) (hG : G 1 = .iptr (KS.map pw) 0) (tag : Int) (parts : List (List UInt8)) (h : ∀ p ∈ parts, p.length ≤ 4000) (hn : parts.length ≤ 100) : PCalls Tryd.prog G 21 [pint .i64 tag, .list 1 (parts.map pstr)] [] (fun res H => res = .agg ((ofH tag parts).map pbyte) ∧ H = []) := by
  have hw := tagB_wrap tag
  have a0 := add_c G hG [] [tagB tag] (by simp)
  rw [List.nil_append] at a0
  have hub := unb_pbyte (tagB tag)
  have his := isB1 (tagB tag)
  have htot := ofIn_le tag parts h hn
  have hs := ssum_c G hG (ofIn tag parts) (by omega)
  have hd : ofH tag parts = (sha (ofIn tag parts)).take 16 := rfl
  have hol := ofH_len tag parts
  have hsl := sha_len (ofIn tag parts)
  have hone := all_one_byte (ofH tag parts)
  have hone2 := all_one_byte (sha (ofIn tag parts))
  have htk : List.take 16 ((ofH tag parts).map pbyte) = (ofH tag parts).map pbyte := List.take_of_length_le (by rw [List.length_map]; omega)
  have htk2 : List.take 16 ((sha (ofIn tag parts)).map pbyte) = (ofH tag parts).map pbyte := by rw [hd, List.map_take]
  have htk3 : List.take 32 ((sha (ofIn tag parts)).map pbyte) = (sha (ofIn tag parts)).map pbyte := List.take_of_length_le (by rw [List.length_map]; omega)
  (refine PCalls_f Tryd.func21 rfl Tryd.ntmps21 Tryd.results21 (by simp) fun fin hfin => ?_; have hnm : True := trivial; simp (maxSteps := 2000000) (disch := omega) only [↓popG_eq, ↓pop.eq_1, ↓List.getElem?_map, ↓List.getElem?_cons_zero, ↓List.getElem?_cons_succ, pbuiltin, opnd, constPV, PState.put, fr_set, fr_getD_nil, fr_same, fr_other, layFrom, List.set, pnck, pguard_tt, pguard_tf, pguard_ft, pguard_ff, seqK, blockK, scopeK, List.map_cons, List.map_nil, List.getD_cons_zero, List.getD_cons_succ, List.getD_nil, List.getElem?_nil, Option.join_some, Option.join_none, pbin, pun, ppick, plen, pldop, pload, pfaddr, piaddr, pindex, pfield, pslice, pbound, pconv, pelems, pextract, pmm, parr, pbuild, pfill, PV.mem?, PV.one, PV.cells, pageq, peqs, peq1, palloc, pbox, pbuildS, pmakes, pstore, pappend, pcopy, pbytes, pmark, psrc, vcells, Value.oneCell', look, upd, del, names, Option.map_some, Option.map_none, List.length_cons, List.length_nil, List.all_cons, List.all_nil, Bool.and_true, Bool.true_and, Bool.not_true, Bool.not_false, List.take_zero, List.drop_zero, List.nil_append, List.cons_append, List.append_nil, Nat.reduceAdd, Nat.reduceMul, Nat.reduceSub, Nat.reduceLeDiff, Nat.reduceEqDiff, Nat.zero_add, Nat.add_zero, Nat.mul_one, Nat.zero_mul, List.drop_succ_cons, List.take_succ_cons, List.drop_nil, List.take_nil, ↓reduceIte, ne_eq, true_and, and_true, not_false_eq_true, reduceCtorEq, forall_const, List.toList_toArray, times, List.replicate_succ, List.replicate_zero, List.flatten_cons, List.flatten_nil, Value.cells, Int.toNat_natCast, Int.toNat_zero, Int.toNat_one, bl_mk, bl_lit, wr64, toNat_add1, toNat_sub1, map_getD, Int.natCast_nonneg, List.length_map, Bool.not_not, List.not_mem_nil, Option.some.injEq, exists_and_left, exists_eq_left', Int.cast_ofNat_Int, Int.natCast_zero, eq_self, List.size_toArray, Nat.reduceLT, Int.reduceLT, Int.reduceLE, Int.reduceToNat, Int.reduceAdd, Int.reduceSub, Int.reduceNeg, decide_true, decide_false, List.length_take, List.length_append, List.length_drop, hnm, Tryd.tf0, Tryd.tf1, Tryd.tf3, Tryd.tf5, Tryd.tf9, Tryd.tf22, Tryd.tf24, Tryd.teq24, Tryd.tf27, Tryd.teq30, Tryd.teq31, Tryd.tf34, Tryd.teq43, Tryd.tf44, Tryd.teq44, Tryd.teq48, Tryd.teq54, Tryd.teq63, Tryd.call14, Tryd.call15, Tryd.call17, Tryd.call33])
  with_reducible apply W_seq_k
  intro nx hnx
  repeat' (first
    | with_reducible apply W_block
    | with_reducible apply W_scope
    | (with_reducible refine W_prune 229811 ?_; simp only [prune_cons, prune_nil, Nat.reducePow, Nat.reduceDiv, Nat.reduceMod, Nat.reduceBEq, cond_true, cond_false]; with_reducible apply W_region_l)
    | (with_reducible refine W_prune 229811 ?_; simp only [prune_cons, prune_nil, Nat.reducePow, Nat.reduceDiv, Nat.reduceMod, Nat.reduceBEq, cond_true, cond_false]; with_reducible refine W_region_draw (id := 1) 1 (.op 1 true (.op 2 true (.alt 0 true (.alt 3 false (.op 4 true (.alt 5 true (.op 6 true (.op 7 false (.done))) (.alt 6 true (.op 5 true (.op 7 false (.done))) .stop))) (.alt 6 true (.op 3 false (.op 4 true (.op 5 true (.op 7 false (.done))))) .stop)) (.alt 3 false (.op 4 true (.alt 0 true (.alt 5 true (.op 6 true (.op 7 false (.done))) (.alt 6 true (.op 5 true (.op 7 false (.done))) .stop)) (.alt 6 true (.op 0 true (.op 5 true (.op 7 false (.done)))) .stop))) (.alt 6 true (.alt 0 true (.op 3 false (.op 4 true (.op 5 true (.op 7 false (.done))))) (.alt 3 false (.op 4 true (.op 0 true (.op 5 true (.op 7 false (.done))))) .stop)) .stop))))) (by kernel_rfl) ?_)
    | (with_reducible refine W_prune 229811 ?_; simp only [prune_cons, prune_nil, Nat.reducePow, Nat.reduceDiv, Nat.reduceMod, Nat.reduceBEq, cond_true, cond_false]; with_reducible refine W_region_draw (id := 5) 1 (.op 0 true (.op 1 true (.op 2 true (.op 3 true (.op 4 false (.op 5 false (.done))))))) (by kernel_rfl) ?_)
    | ((first | (with_reducible apply WL_op; intro nx hnx) | with_reducible refine Ev_out ?_ | (with_reducible apply popsD_op; intro nx hnx) | (with_reducible refine popsD_alt ?_ ?_; intro nx hnx) | (with_reducible refine pfresh_k hnm fun nm hnm => ?_; (try simp only [List.forall_mem_cons, List.not_mem_nil, false_implies, implies_true, and_true, true_and, ne_eq] at hnm))); try (simp (maxSteps := 2000000) (disch := omega) only [↓popG_eq, ↓pop.eq_1, ↓List.getElem?_map, ↓List.getElem?_cons_zero, ↓List.getElem?_cons_succ, pbuiltin, opnd, constPV, PState.put, fr_set, fr_getD_nil, fr_same, fr_other, layFrom, List.set, pnck, pguard_tt, pguard_tf, pguard_ft, pguard_ff, seqK, blockK, scopeK, List.map_cons, List.map_nil, List.getD_cons_zero, List.getD_cons_succ, List.getD_nil, List.getElem?_nil, Option.join_some, Option.join_none, pbin, pun, ppick, plen, pldop, pload, pfaddr, piaddr, pindex, pfield, pslice, pbound, pconv, pelems, pextract, pmm, parr, pbuild, pfill, PV.mem?, PV.one, PV.cells, pageq, peqs, peq1, palloc, pbox, pbuildS, pmakes, pstore, pappend, pcopy, pbytes, pmark, psrc, vcells, Value.oneCell', look, upd, del, names, Option.map_some, Option.map_none, List.length_cons, List.length_nil, List.all_cons, List.all_nil, Bool.and_true, Bool.true_and, Bool.not_true, Bool.not_false, List.take_zero, List.drop_zero, List.nil_append, List.cons_append, List.append_nil, Nat.reduceAdd, Nat.reduceMul, Nat.reduceSub, Nat.reduceLeDiff, Nat.reduceEqDiff, Nat.zero_add, Nat.add_zero, Nat.mul_one, Nat.zero_mul, List.drop_succ_cons, List.take_succ_cons, List.drop_nil, List.take_nil, ↓reduceIte, ne_eq, true_and, and_true, not_false_eq_true, reduceCtorEq, forall_const, List.toList_toArray, times, List.replicate_succ, List.replicate_zero, List.flatten_cons, List.flatten_nil, Value.cells, Int.toNat_natCast, Int.toNat_zero, Int.toNat_one, bl_mk, bl_lit, wr64, toNat_add1, toNat_sub1, map_getD, Int.natCast_nonneg, List.length_map, Bool.not_not, List.not_mem_nil, Option.some.injEq, exists_and_left, exists_eq_left', Int.cast_ofNat_Int, Int.natCast_zero, eq_self, List.size_toArray, Nat.reduceLT, Int.reduceLT, Int.reduceLE, Int.reduceToNat, Int.reduceAdd, Int.reduceSub, Int.reduceNeg, decide_true, decide_false, List.length_take, List.length_append, List.length_drop, hnm, Tryd.tf0, Tryd.tf1, Tryd.tf3, Tryd.tf5, Tryd.tf9, Tryd.tf22, Tryd.tf24, Tryd.teq24, Tryd.tf27, Tryd.teq30, Tryd.teq31, Tryd.tf34, Tryd.teq43, Tryd.tf44, Tryd.teq44, Tryd.teq48, Tryd.teq54, Tryd.teq63, Tryd.call14, Tryd.call15, Tryd.call17, Tryd.call33]); repeat (refine And.intro (by omega) ?_))
    | ((first | with_reducible apply WL_nil | with_reducible apply W_label | with_reducible apply W_skip | with_reducible apply W_exit | with_reducible apply W_ret | with_reducible apply popsD_done); try simp only [seqK, blockK, scopeK, ↓reduceIte, Nat.reduceEqDiff])
    | with_reducible exact popsD_stop
    | (with_reducible apply W_cond_k; intro _ _ ea eb; (simp only [condK, not_true_eq_false, not_false_eq_true, opnd, constPV, List.getD_cons_zero, List.getD_cons_succ, fr_getD_cons, fr_getD_nil, Nat.reduceEqDiff, Nat.reduceLT, ↓reduceIte, decide_eq_true_eq, decide_eq_false_iff_not, reduceCtorEq, false_implies, true_implies, and_true, true_and, Bool.not_eq_true, Bool.not_eq_false, forall_const, bne_iff_ne, bne_eq_false_iff_eq, beq_iff_eq, beq_eq_false_iff_ne, ne_eq, Decidable.not_not, Bool.not_eq_eq_eq_not, Bool.not_true, Bool.not_false, Bool.and_eq_true, Bool.or_eq_true, Int.natCast_inj, Bool.and_eq_false_iff, Bool.or_eq_false_iff]); subst ea eb; first | (refine ⟨fun hc => ?_, fun hc => ?_⟩ <;> first | (exfalso; omega) | (exfalso; exact hc trivial) | skip) | skip)
    | (with_reducible apply hnx; clear hnx nx)
    | (with_reducible refine And.intro (by omega) ?_)
    | (with_reducible refine And.intro ?_ ?_)
    | (clear hnx nx; with_reducible apply hnx; clear hnx nx)
    | (clear hnx nx; clear hnx nx; with_reducible apply hnx; clear hnx nx)
    | (clear hnx nx; clear hnx nx; clear hnx nx; with_reducible apply hnx; clear hnx nx))
  obtain ⟨N4, hN4⟩ : ∃ N, N = nm := ⟨_, rfl⟩
  subst hN4
  with_reducible apply W_seq_k
  intro nx hnx
  obtain ⟨Z, hZ⟩ : ∃ Z, Z = List.replicate 16 (pint .u8 0) := ⟨_, rfl⟩
  have hZl : Z.length = 16 := by rw [hZ]; rfl
  have hnx := W_join hnx (fun τ => ∃ N5 : Int, ¬ N5 = N4 ∧ τ = ⟨fr 32 [(1, .list 1 (parts.map pstr)), (4, .ptr N4 0), (5, .ptr N5 0)], [(N5, ⟨34, false, 0, stC [tagB tag]⟩), (N4, ⟨44, false, 0, Z⟩)]⟩) (by
    clear hnx nx hnm a0 his hub hw
    rintro τ ⟨N5, hN, rfl⟩
    have hnm : ¬ N5 = N4 ∧ ¬ N4 = N5 := ⟨hN, fun e => hN e.symm⟩
    have hnd : [N5, N4].Nodup := by simp [hN]
    repeat' (first
    | (with_reducible apply W_seq_k; intro nx hnx)
    | with_reducible apply W_block
    | with_reducible apply W_scope
    | (with_reducible refine W_prune 229811 ?_; simp only [prune_cons, prune_nil, Nat.reducePow, Nat.reduceDiv, Nat.reduceMod, Nat.reduceBEq, cond_true, cond_false]; with_reducible apply W_region_l)
    | (with_reducible refine W_prune 229811 ?_; simp only [prune_cons, prune_nil, Nat.reducePow, Nat.reduceDiv, Nat.reduceMod, Nat.reduceBEq, cond_true, cond_false]; with_reducible refine W_region_draw (id := 1) 1 (.op 1 true (.op 2 true (.alt 0 true (.alt 3 false (.op 4 true (.alt 5 true (.op 6 true (.op 7 false (.done))) (.alt 6 true (.op 5 true (.op 7 false (.done))) .stop))) (.alt 6 true (.op 3 false (.op 4 true (.op 5 true (.op 7 false (.done))))) .stop)) (.alt 3 false (.op 4 true (.alt 0 true (.alt 5 true (.op 6 true (.op 7 false (.done))) (.alt 6 true (.op 5 true (.op 7 false (.done))) .stop)) (.alt 6 true (.op 0 true (.op 5 true (.op 7 false (.done)))) .stop))) (.alt 6 true (.alt 0 true (.op 3 false (.op 4 true (.op 5 true (.op 7 false (.done))))) (.alt 3 false (.op 4 true (.op 0 true (.op 5 true (.op 7 false (.done))))) .stop)) .stop))))) (by kernel_rfl) ?_)
    | (with_reducible refine W_prune 229811 ?_; simp only [prune_cons, prune_nil, Nat.reducePow, Nat.reduceDiv, Nat.reduceMod, Nat.reduceBEq, cond_true, cond_false]; with_reducible refine W_region_draw (id := 5) 1 (.op 0 true (.op 1 true (.op 2 true (.op 3 true (.op 4 false (.op 5 false (.done))))))) (by kernel_rfl) ?_)
    | ((first | (with_reducible apply WL_op; intro nx hnx) | with_reducible refine Ev_out ?_ | (with_reducible apply popsD_op; intro nx hnx) | (with_reducible refine popsD_alt ?_ ?_; intro nx hnx) | (with_reducible refine pfresh_k hnm fun nm hnm => ?_; (try simp only [List.forall_mem_cons, List.not_mem_nil, false_implies, implies_true, and_true, true_and, ne_eq] at hnm))); try (simp (maxSteps := 2000000) (disch := omega) only [↓popG_eq, ↓pop.eq_1, ↓List.getElem?_map, ↓List.getElem?_cons_zero, ↓List.getElem?_cons_succ, pbuiltin, opnd, constPV, PState.put, fr_set, fr_getD_nil, fr_same, fr_other, layFrom, List.set, pnck, pguard_tt, pguard_tf, pguard_ft, pguard_ff, seqK, blockK, scopeK, List.map_cons, List.map_nil, List.getD_cons_zero, List.getD_cons_succ, List.getD_nil, List.getElem?_nil, Option.join_some, Option.join_none, pbin, pun, ppick, plen, pldop, pload, pfaddr, piaddr, pindex, pfield, pslice, pbound, pconv, pelems, pextract, pmm, parr, pbuild, pfill, PV.mem?, PV.one, PV.cells, pageq, peqs, peq1, palloc, pbox, pbuildS, pmakes, pstore, pappend, pcopy, pbytes, pmark, psrc, vcells, Value.oneCell', look, upd, del, names, Option.map_some, Option.map_none, List.length_cons, List.length_nil, List.all_cons, List.all_nil, Bool.and_true, Bool.true_and, Bool.not_true, Bool.not_false, List.take_zero, List.drop_zero, List.nil_append, List.cons_append, List.append_nil, Nat.reduceAdd, Nat.reduceMul, Nat.reduceSub, Nat.reduceLeDiff, Nat.reduceEqDiff, Nat.zero_add, Nat.add_zero, Nat.mul_one, Nat.zero_mul, List.drop_succ_cons, List.take_succ_cons, List.drop_nil, List.take_nil, ↓reduceIte, ne_eq, true_and, and_true, not_false_eq_true, reduceCtorEq, forall_const, List.toList_toArray, times, List.replicate_succ, List.replicate_zero, List.flatten_cons, List.flatten_nil, Value.cells, Int.toNat_natCast, Int.toNat_zero, Int.toNat_one, bl_mk, bl_lit, wr64, toNat_add1, toNat_sub1, map_getD, Int.natCast_nonneg, List.length_map, Bool.not_not, List.not_mem_nil, Option.some.injEq, exists_and_left, exists_eq_left', Int.cast_ofNat_Int, Int.natCast_zero, eq_self, List.size_toArray, Nat.reduceLT, Int.reduceLT, Int.reduceLE, Int.reduceToNat, Int.reduceAdd, Int.reduceSub, Int.reduceNeg, decide_true, decide_false, List.length_take, List.length_append, List.length_drop, hnm, Tryd.tf0, Tryd.tf1, Tryd.tf3, Tryd.tf5, Tryd.tf9, Tryd.tf22, Tryd.tf24, Tryd.teq24, Tryd.tf27, Tryd.teq30, Tryd.teq31, Tryd.tf34, Tryd.teq43, Tryd.tf44, Tryd.teq44, Tryd.teq48, Tryd.teq54, Tryd.teq63, Tryd.call14, Tryd.call15, Tryd.call17, Tryd.call33]); repeat (refine And.intro (by omega) ?_))
    | ((first | with_reducible apply WL_nil | with_reducible apply W_label | with_reducible apply W_skip | with_reducible apply W_exit | with_reducible apply W_ret | with_reducible apply popsD_done); try simp only [seqK, blockK, scopeK, ↓reduceIte, Nat.reduceEqDiff])
    | with_reducible exact popsD_stop
    | (with_reducible apply W_cond_k; intro _ _ ea eb; (simp only [condK, not_true_eq_false, not_false_eq_true, opnd, constPV, List.getD_cons_zero, List.getD_cons_succ, fr_getD_cons, fr_getD_nil, Nat.reduceEqDiff, Nat.reduceLT, ↓reduceIte, decide_eq_true_eq, decide_eq_false_iff_not, reduceCtorEq, false_implies, true_implies, and_true, true_and, Bool.not_eq_true, Bool.not_eq_false, forall_const, bne_iff_ne, bne_eq_false_iff_eq, beq_iff_eq, beq_eq_false_iff_ne, ne_eq, Decidable.not_not, Bool.not_eq_eq_eq_not, Bool.not_true, Bool.not_false, Bool.and_eq_true, Bool.or_eq_true, Int.natCast_inj, Bool.and_eq_false_iff, Bool.or_eq_false_iff]); subst ea eb; first | (refine ⟨fun hc => ?_, fun hc => ?_⟩ <;> first | (exfalso; omega) | (exfalso; exact hc trivial) | skip) | skip)
    | (with_reducible apply hnx; clear hnx nx)
    | (with_reducible refine And.intro (by omega) ?_)
    | (with_reducible refine And.intro ?_ ?_)
    | (clear hnx nx; with_reducible apply hnx; clear hnx nx)
    | (clear hnx nx; clear hnx nx; with_reducible apply hnx; clear hnx nx)
    | (clear hnx nx; clear hnx nx; clear hnx nx; with_reducible apply hnx; clear hnx nx))
    refine W_loop_k (fun z τ => ∃ (i : Nat) (u : List UInt8), i ≤ parts.length ∧ z = parts.length - i ∧ u = preP tag parts i ∧ τ = ⟨fr 32 [(15, .list 1 (parts.map pstr)), (16, pint .i64 parts.length), (17, pint .i64 i), (4, .ptr N4 0), (5, .ptr N5 0)], [(N5, ⟨34, false, 0, stC u⟩), (N4, ⟨44, false, 0, Z⟩)]⟩) parts.length
      ⟨fr 32 [(15, .list 1 (parts.map pstr)), (16, pint .i64 parts.length), (17, pint .i64 (0 : Nat)), (4, .ptr N4 0), (5, .ptr N5 0)], [(N5, ⟨34, false, 0, stC [tagB tag]⟩), (N4, ⟨44, false, 0, Z⟩)]⟩ (by
      refine Wk_fr (by simp only [List.forall_mem_cons, List.not_mem_nil, false_implies, implies_true, and_true, true_and, and_self, fr_getD_cons, fr_getD_nil, Nat.reduceEqDiff, Nat.reduceLT, ↓reduceIte, Int.natCast_add, Int.cast_ofNat_Int, Int.natCast_zero]) ?_
      exact Sub_refl hnd) ⟨0, [tagB tag], by omega, by omega, (preP_zero tag parts).symm, rfl⟩ ?_
    rintro z τ ⟨i, u, hi, rfl, hu, rfl⟩ lp hlp
    have hle := preP_le tag parts i h hn
    rw [← hu] at hle
    have l1 := stC_len u
    have l2 := stC_one u
    have l3 := stC_take u
    have l4 := stC_drop u
    by_cases hik : i < parts.length
    · obtain ⟨p, hg⟩ : ∃ p, parts[i]? = some p := ⟨_, List.getElem?_eq_getElem hik⟩
      have hg2 : parts[i]'(by omega) = p := by
        rw [List.getElem?_eq_getElem hik] at hg
        exact Option.some.inj hg
      have hp := h p (List.mem_of_getElem? hg)
      have hbl := bytesB_len p hp
      have hsu := preP_succ tag parts i p hg
      have b1 := isByte_pb (bytesB p)
      have b2 := unb_pb (bytesB p)
      have a1 := add_c G hG u (bytesB p) (by omega)
      rw [← hu] at hsu
      have m1 := stC_len (u ++ bytesB p)
      have m2 := stC_one (u ++ bytesB p)
      have m3 := stC_take (u ++ bytesB p)
      repeat' (first
    | (with_reducible apply W_seq_k; intro nx hnx)
    | with_reducible apply W_block
    | with_reducible apply W_scope
    | (with_reducible refine W_prune 229811 ?_; simp only [prune_cons, prune_nil, Nat.reducePow, Nat.reduceDiv, Nat.reduceMod, Nat.reduceBEq, cond_true, cond_false]; with_reducible apply W_region_l)
    | (with_reducible refine W_prune 229811 ?_; simp only [prune_cons, prune_nil, Nat.reducePow, Nat.reduceDiv, Nat.reduceMod, Nat.reduceBEq, cond_true, cond_false]; with_reducible refine W_region_draw (id := 1) 1 (.op 1 true (.op 2 true (.alt 0 true (.alt 3 false (.op 4 true (.alt 5 true (.op 6 true (.op 7 false (.done))) (.alt 6 true (.op 5 true (.op 7 false (.done))) .stop))) (.alt 6 true (.op 3 false (.op 4 true (.op 5 true (.op 7 false (.done))))) .stop)) (.alt 3 false (.op 4 true (.alt 0 true (.alt 5 true (.op 6 true (.op 7 false (.done))) (.alt 6 true (.op 5 true (.op 7 false (.done))) .stop)) (.alt 6 true (.op 0 true (.op 5 true (.op 7 false (.done)))) .stop))) (.alt 6 true (.alt 0 true (.op 3 false (.op 4 true (.op 5 true (.op 7 false (.done))))) (.alt 3 false (.op 4 true (.op 0 true (.op 5 true (.op 7 false (.done))))) .stop)) .stop))))) (by kernel_rfl) ?_)
    | (with_reducible refine W_prune 229811 ?_; simp only [prune_cons, prune_nil, Nat.reducePow, Nat.reduceDiv, Nat.reduceMod, Nat.reduceBEq, cond_true, cond_false]; with_reducible refine W_region_draw (id := 5) 1 (.op 0 true (.op 1 true (.op 2 true (.op 3 true (.op 4 false (.op 5 false (.done))))))) (by kernel_rfl) ?_)
    | ((first | (with_reducible apply WL_op; intro nx hnx) | with_reducible refine Ev_out ?_ | (with_reducible apply popsD_op; intro nx hnx) | (with_reducible refine popsD_alt ?_ ?_; intro nx hnx) | (with_reducible refine pfresh_k hnm fun nm hnm => ?_; (try simp only [List.forall_mem_cons, List.not_mem_nil, false_implies, implies_true, and_true, true_and, ne_eq] at hnm))); try (simp (maxSteps := 2000000) (disch := omega) only [↓popG_eq, ↓pop.eq_1, ↓List.getElem?_map, ↓List.getElem?_cons_zero, ↓List.getElem?_cons_succ, pbuiltin, opnd, constPV, PState.put, fr_set, fr_getD_nil, fr_same, fr_other, layFrom, List.set, pnck, pguard_tt, pguard_tf, pguard_ft, pguard_ff, seqK, blockK, scopeK, List.map_cons, List.map_nil, List.getD_cons_zero, List.getD_cons_succ, List.getD_nil, List.getElem?_nil, Option.join_some, Option.join_none, pbin, pun, ppick, plen, pldop, pload, pfaddr, piaddr, pindex, pfield, pslice, pbound, pconv, pelems, pextract, pmm, parr, pbuild, pfill, PV.mem?, PV.one, PV.cells, pageq, peqs, peq1, palloc, pbox, pbuildS, pmakes, pstore, pappend, pcopy, pbytes, pmark, psrc, vcells, Value.oneCell', look, upd, del, names, Option.map_some, Option.map_none, List.length_cons, List.length_nil, List.all_cons, List.all_nil, Bool.and_true, Bool.true_and, Bool.not_true, Bool.not_false, List.take_zero, List.drop_zero, List.nil_append, List.cons_append, List.append_nil, Nat.reduceAdd, Nat.reduceMul, Nat.reduceSub, Nat.reduceLeDiff, Nat.reduceEqDiff, Nat.zero_add, Nat.add_zero, Nat.mul_one, Nat.zero_mul, List.drop_succ_cons, List.take_succ_cons, List.drop_nil, List.take_nil, ↓reduceIte, ne_eq, true_and, and_true, not_false_eq_true, reduceCtorEq, forall_const, List.toList_toArray, times, List.replicate_succ, List.replicate_zero, List.flatten_cons, List.flatten_nil, Value.cells, Int.toNat_natCast, Int.toNat_zero, Int.toNat_one, bl_mk, bl_lit, wr64, toNat_add1, toNat_sub1, map_getD, Int.natCast_nonneg, List.length_map, Bool.not_not, List.not_mem_nil, Option.some.injEq, exists_and_left, exists_eq_left', Int.cast_ofNat_Int, Int.natCast_zero, eq_self, List.size_toArray, Nat.reduceLT, Int.reduceLT, Int.reduceLE, Int.reduceToNat, Int.reduceAdd, Int.reduceSub, Int.reduceNeg, decide_true, decide_false, List.length_take, List.length_append, List.length_drop, hnm, Tryd.tf0, Tryd.tf1, Tryd.tf3, Tryd.tf5, Tryd.tf9, Tryd.tf22, Tryd.tf24, Tryd.teq24, Tryd.tf27, Tryd.teq30, Tryd.teq31, Tryd.tf34, Tryd.teq43, Tryd.tf44, Tryd.teq44, Tryd.teq48, Tryd.teq54, Tryd.teq63, Tryd.call14, Tryd.call15, Tryd.call17, Tryd.call33, hg, hg2, b1, b2, l1, l2, l3, l4, m1, m2, m3]); repeat (refine And.intro (by omega) ?_))
    | ((first | with_reducible apply WL_nil | with_reducible apply W_label | with_reducible apply W_skip | with_reducible apply W_exit | with_reducible apply W_ret | with_reducible apply popsD_done); try simp only [seqK, blockK, scopeK, ↓reduceIte, Nat.reduceEqDiff])
    | with_reducible exact popsD_stop
    | (with_reducible apply W_cond_k; intro _ _ ea eb; (simp only [condK, not_true_eq_false, not_false_eq_true, opnd, constPV, List.getD_cons_zero, List.getD_cons_succ, fr_getD_cons, fr_getD_nil, Nat.reduceEqDiff, Nat.reduceLT, ↓reduceIte, decide_eq_true_eq, decide_eq_false_iff_not, reduceCtorEq, false_implies, true_implies, and_true, true_and, Bool.not_eq_true, Bool.not_eq_false, forall_const, bne_iff_ne, bne_eq_false_iff_eq, beq_iff_eq, beq_eq_false_iff_ne, ne_eq, Decidable.not_not, Bool.not_eq_eq_eq_not, Bool.not_true, Bool.not_false, Bool.and_eq_true, Bool.or_eq_true, Int.natCast_inj, Bool.and_eq_false_iff, Bool.or_eq_false_iff]); subst ea eb; first | (refine ⟨fun hc => ?_, fun hc => ?_⟩ <;> first | (exfalso; omega) | (exfalso; exact hc trivial) | skip) | skip)
    | (with_reducible apply hnx; clear hnx nx)
    | (with_reducible refine And.intro (by omega) ?_)
    | (with_reducible refine And.intro ?_ ?_)
    | (with_reducible refine pcall_k (wbytes_c G p (by omega)) ?_; rintro _ _ ⟨rfl, rfl⟩ -; refine Ev_in ?_)
    | (with_reducible refine pcall_k (a1) ?_; rintro _ _ ⟨rfl, rfl⟩ -; refine Ev_in ?_)
    | (clear hnx nx; with_reducible apply hnx; clear hnx nx)
    | (clear hnx nx; clear hnx nx; with_reducible apply hnx; clear hnx nx)
    | (clear hnx nx; clear hnx nx; clear hnx nx; with_reducible apply hnx; clear hnx nx))
      all_goals first
        | exact rfl
        | (exfalso
           omega)
        | (refine hlp _ (parts.length - (i + 1)) _ (by omega) ?_ ⟨i + 1, u ++ bytesB p, by omega, rfl, hsu.symm, rfl⟩
           refine Wk_fr (by simp only [List.forall_mem_cons, List.not_mem_nil, false_implies, implies_true, and_true, true_and, and_self, fr_getD_cons, fr_getD_nil, Nat.reduceEqDiff, Nat.reduceLT, ↓reduceIte, Int.natCast_add, Int.cast_ofNat_Int, Int.natCast_zero]) ?_
           exact Sub_refl hnd)
    · have hui : u = ofIn tag parts := by rw [hu, preP_all _ _ _ (by omega)]
      rw [← hui] at hs hone2 htk2 htk3 hsl
      have hZd : List.drop 16 Z = [] := List.drop_of_length_le (by omega)
      have hsl2 : ((sha u).map pbyte).length = 32 := by rw [List.length_map, hsl]
      have hol2 : ((ofH tag parts).map pbyte).length = 16 := by rw [List.length_map, hol]
      repeat' (first
    | (with_reducible apply W_seq_k; intro nx hnx)
    | with_reducible apply W_block
    | with_reducible apply W_scope
    | (with_reducible refine W_prune 229811 ?_; simp only [prune_cons, prune_nil, Nat.reducePow, Nat.reduceDiv, Nat.reduceMod, Nat.reduceBEq, cond_true, cond_false]; with_reducible apply W_region_l)
    | (with_reducible refine W_prune 229811 ?_; simp only [prune_cons, prune_nil, Nat.reducePow, Nat.reduceDiv, Nat.reduceMod, Nat.reduceBEq, cond_true, cond_false]; with_reducible refine W_region_draw (id := 1) 1 (.op 1 true (.op 2 true (.alt 0 true (.alt 3 false (.op 4 true (.alt 5 true (.op 6 true (.op 7 false (.done))) (.alt 6 true (.op 5 true (.op 7 false (.done))) .stop))) (.alt 6 true (.op 3 false (.op 4 true (.op 5 true (.op 7 false (.done))))) .stop)) (.alt 3 false (.op 4 true (.alt 0 true (.alt 5 true (.op 6 true (.op 7 false (.done))) (.alt 6 true (.op 5 true (.op 7 false (.done))) .stop)) (.alt 6 true (.op 0 true (.op 5 true (.op 7 false (.done)))) .stop))) (.alt 6 true (.alt 0 true (.op 3 false (.op 4 true (.op 5 true (.op 7 false (.done))))) (.alt 3 false (.op 4 true (.op 0 true (.op 5 true (.op 7 false (.done))))) .stop)) .stop))))) (by kernel_rfl) ?_)
    | (with_reducible refine W_prune 229811 ?_; simp only [prune_cons, prune_nil, Nat.reducePow, Nat.reduceDiv, Nat.reduceMod, Nat.reduceBEq, cond_true, cond_false]; with_reducible refine W_region_draw (id := 5) 1 (.op 0 true (.op 1 true (.op 2 true (.op 3 true (.op 4 false (.op 5 false (.done))))))) (by kernel_rfl) ?_)
    | ((first | (with_reducible apply WL_op; intro nx hnx) | with_reducible refine Ev_out ?_ | (with_reducible apply popsD_op; intro nx hnx) | (with_reducible refine popsD_alt ?_ ?_; intro nx hnx) | (with_reducible refine pfresh_k hnm fun nm hnm => ?_; (try simp only [List.forall_mem_cons, List.not_mem_nil, false_implies, implies_true, and_true, true_and, ne_eq] at hnm))); try (simp (maxSteps := 2000000) (disch := omega) only [↓popG_eq, ↓pop.eq_1, ↓List.getElem?_map, ↓List.getElem?_cons_zero, ↓List.getElem?_cons_succ, pbuiltin, opnd, constPV, PState.put, fr_set, fr_getD_nil, fr_same, fr_other, layFrom, List.set, pnck, pguard_tt, pguard_tf, pguard_ft, pguard_ff, seqK, blockK, scopeK, List.map_cons, List.map_nil, List.getD_cons_zero, List.getD_cons_succ, List.getD_nil, List.getElem?_nil, Option.join_some, Option.join_none, pbin, pun, ppick, plen, pldop, pload, pfaddr, piaddr, pindex, pfield, pslice, pbound, pconv, pelems, pextract, pmm, parr, pbuild, pfill, PV.mem?, PV.one, PV.cells, pageq, peqs, peq1, palloc, pbox, pbuildS, pmakes, pstore, pappend, pcopy, pbytes, pmark, psrc, vcells, Value.oneCell', look, upd, del, names, Option.map_some, Option.map_none, List.length_cons, List.length_nil, List.all_cons, List.all_nil, Bool.and_true, Bool.true_and, Bool.not_true, Bool.not_false, List.take_zero, List.drop_zero, List.nil_append, List.cons_append, List.append_nil, Nat.reduceAdd, Nat.reduceMul, Nat.reduceSub, Nat.reduceLeDiff, Nat.reduceEqDiff, Nat.zero_add, Nat.add_zero, Nat.mul_one, Nat.zero_mul, List.drop_succ_cons, List.take_succ_cons, List.drop_nil, List.take_nil, ↓reduceIte, ne_eq, true_and, and_true, not_false_eq_true, reduceCtorEq, forall_const, List.toList_toArray, times, List.replicate_succ, List.replicate_zero, List.flatten_cons, List.flatten_nil, Value.cells, Int.toNat_natCast, Int.toNat_zero, Int.toNat_one, bl_mk, bl_lit, wr64, toNat_add1, toNat_sub1, map_getD, Int.natCast_nonneg, List.length_map, Bool.not_not, List.not_mem_nil, Option.some.injEq, exists_and_left, exists_eq_left', Int.cast_ofNat_Int, Int.natCast_zero, eq_self, List.size_toArray, Nat.reduceLT, Int.reduceLT, Int.reduceLE, Int.reduceToNat, Int.reduceAdd, Int.reduceSub, Int.reduceNeg, decide_true, decide_false, List.length_take, List.length_append, List.length_drop, hnm, Tryd.tf0, Tryd.tf1, Tryd.tf3, Tryd.tf5, Tryd.tf9, Tryd.tf22, Tryd.tf24, Tryd.teq24, Tryd.tf27, Tryd.teq30, Tryd.teq31, Tryd.tf34, Tryd.teq43, Tryd.tf44, Tryd.teq44, Tryd.teq48, Tryd.teq54, Tryd.teq63, Tryd.call14, Tryd.call15, Tryd.call17, Tryd.call33, l1, l2, l3, l4, hone2, htk2, htk3, hsl, hsl2, hZl, hZd, hol, hol2, hone, htk]); repeat (refine And.intro (by omega) ?_))
    | ((first | with_reducible apply WL_nil | with_reducible apply W_label | with_reducible apply W_skip | with_reducible apply W_exit | with_reducible apply W_ret | with_reducible apply popsD_done); try simp only [seqK, blockK, scopeK, ↓reduceIte, Nat.reduceEqDiff])
    | with_reducible exact popsD_stop
    | (with_reducible apply W_cond_k; intro _ _ ea eb; (simp only [condK, not_true_eq_false, not_false_eq_true, opnd, constPV, List.getD_cons_zero, List.getD_cons_succ, fr_getD_cons, fr_getD_nil, Nat.reduceEqDiff, Nat.reduceLT, ↓reduceIte, decide_eq_true_eq, decide_eq_false_iff_not, reduceCtorEq, false_implies, true_implies, and_true, true_and, Bool.not_eq_true, Bool.not_eq_false, forall_const, bne_iff_ne, bne_eq_false_iff_eq, beq_iff_eq, beq_eq_false_iff_ne, ne_eq, Decidable.not_not, Bool.not_eq_eq_eq_not, Bool.not_true, Bool.not_false, Bool.and_eq_true, Bool.or_eq_true, Int.natCast_inj, Bool.and_eq_false_iff, Bool.or_eq_false_iff]); subst ea eb; first | (refine ⟨fun hc => ?_, fun hc => ?_⟩ <;> first | (exfalso; omega) | (exfalso; exact hc trivial) | skip) | skip)
    | (with_reducible apply hnx; clear hnx nx)
    | (with_reducible refine And.intro (by omega) ?_)
    | (with_reducible refine And.intro ?_ ?_)
    | (with_reducible refine pcall_k (hs) ?_; rintro _ _ ⟨rfl, rfl⟩ -; refine Ev_in ?_)
    | (clear hnx nx; with_reducible apply hnx; clear hnx nx)
    | (clear hnx nx; clear hnx nx; with_reducible apply hnx; clear hnx nx)
    | (clear hnx nx; clear hnx nx; clear hnx nx; with_reducible apply hnx; clear hnx nx))
      all_goals first
        | exact rfl
        | (exfalso
           omega)
        | skip
      generalize ofH tag parts = f at *
      refine hfin _ _ (Fin_cell (res := .agg (f.map pbyte)) Tryd.tf44 (n := N4) (off := 0) (o := ⟨44, false, 0, f.map pbyte⟩) (by simp only [fr_getD_cons, Nat.reduceEqDiff, Nat.reduceLT, ↓reduceIte]) (by simp [look, hnm]) ?_ (Sub_nil _) ⟨rfl, rfl⟩)
      simp [pload, hol, htk, hone])
  have mkT : ∀ (l : List (Nat × PV)) (H : Heap) (a : Int), ¬ a = N4 → (∀ x ∈ [(1, PV.list 1 (parts.map pstr)), (4, PV.ptr N4 0), (5, PV.ptr a 0)], (fr 32 l).getD x.1 .junk = x.2) →
      Sub [(a, ⟨34, false, 0, stC [tagB tag]⟩), (N4, ⟨44, false, 0, Z⟩)] H → nx ⟨fr 32 l, H⟩ :=
    fun l H a h1 h2 h3 => hnx _ ⟨_, ⟨a, h1, rfl⟩, Wk_fr h2 h3⟩
  clear hnx
  have l1 := stC_len [tagB tag]
  have l2 := stC_one [tagB tag]
  have l3 := stC_take [tagB tag]
  repeat' (first
    | (with_reducible apply W_seq_k; intro nx hnx)
    | with_reducible apply W_block
    | with_reducible apply W_scope
    | (with_reducible refine W_prune 229811 ?_; simp only [prune_cons, prune_nil, Nat.reducePow, Nat.reduceDiv, Nat.reduceMod, Nat.reduceBEq, cond_true, cond_false]; with_reducible apply W_region_l)
    | (with_reducible refine W_prune 229811 ?_; simp only [prune_cons, prune_nil, Nat.reducePow, Nat.reduceDiv, Nat.reduceMod, Nat.reduceBEq, cond_true, cond_false]; with_reducible refine W_region_draw (id := 1) 1 (.op 1 true (.op 2 true (.alt 0 true (.alt 3 false (.op 4 true (.alt 5 true (.op 6 true (.op 7 false (.done))) (.alt 6 true (.op 5 true (.op 7 false (.done))) .stop))) (.alt 6 true (.op 3 false (.op 4 true (.op 5 true (.op 7 false (.done))))) .stop)) (.alt 3 false (.op 4 true (.alt 0 true (.alt 5 true (.op 6 true (.op 7 false (.done))) (.alt 6 true (.op 5 true (.op 7 false (.done))) .stop)) (.alt 6 true (.op 0 true (.op 5 true (.op 7 false (.done)))) .stop))) (.alt 6 true (.alt 0 true (.op 3 false (.op 4 true (.op 5 true (.op 7 false (.done))))) (.alt 3 false (.op 4 true (.op 0 true (.op 5 true (.op 7 false (.done))))) .stop)) .stop))))) (by kernel_rfl) ?_)
    | (with_reducible refine W_prune 229811 ?_; simp only [prune_cons, prune_nil, Nat.reducePow, Nat.reduceDiv, Nat.reduceMod, Nat.reduceBEq, cond_true, cond_false]; with_reducible refine W_region_draw (id := 5) 1 (.op 0 true (.op 1 true (.op 2 true (.op 3 true (.op 4 false (.op 5 false (.done))))))) (by kernel_rfl) ?_)
    | ((first | (with_reducible apply WL_op; intro nx hnx) | with_reducible refine Ev_out ?_ | (with_reducible apply popsD_op; intro nx hnx) | (with_reducible refine popsD_alt ?_ ?_; intro nx hnx) | (with_reducible refine pfresh_k hnm fun nm hnm => ?_; (try simp only [List.forall_mem_cons, List.not_mem_nil, false_implies, implies_true, and_true, true_and, ne_eq] at hnm))); try (simp (maxSteps := 2000000) (disch := omega) only [↓popG_eq, ↓pop.eq_1, ↓List.getElem?_map, ↓List.getElem?_cons_zero, ↓List.getElem?_cons_succ, pbuiltin, opnd, constPV, PState.put, fr_set, fr_getD_nil, fr_same, fr_other, layFrom, List.set, pnck, pguard_tt, pguard_tf, pguard_ft, pguard_ff, seqK, blockK, scopeK, List.map_cons, List.map_nil, List.getD_cons_zero, List.getD_cons_succ, List.getD_nil, List.getElem?_nil, Option.join_some, Option.join_none, pbin, pun, ppick, plen, pldop, pload, pfaddr, piaddr, pindex, pfield, pslice, pbound, pconv, pelems, pextract, pmm, parr, pbuild, pfill, PV.mem?, PV.one, PV.cells, pageq, peqs, peq1, palloc, pbox, pbuildS, pmakes, pstore, pappend, pcopy, pbytes, pmark, psrc, vcells, Value.oneCell', look, upd, del, names, Option.map_some, Option.map_none, List.length_cons, List.length_nil, List.all_cons, List.all_nil, Bool.and_true, Bool.true_and, Bool.not_true, Bool.not_false, List.take_zero, List.drop_zero, List.nil_append, List.cons_append, List.append_nil, Nat.reduceAdd, Nat.reduceMul, Nat.reduceSub, Nat.reduceLeDiff, Nat.reduceEqDiff, Nat.zero_add, Nat.add_zero, Nat.mul_one, Nat.zero_mul, List.drop_succ_cons, List.take_succ_cons, List.drop_nil, List.take_nil, ↓reduceIte, ne_eq, true_and, and_true, not_false_eq_true, reduceCtorEq, forall_const, List.toList_toArray, times, List.replicate_succ, List.replicate_zero, List.flatten_cons, List.flatten_nil, Value.cells, Int.toNat_natCast, Int.toNat_zero, Int.toNat_one, bl_mk, bl_lit, wr64, toNat_add1, toNat_sub1, map_getD, Int.natCast_nonneg, List.length_map, Bool.not_not, List.not_mem_nil, Option.some.injEq, exists_and_left, exists_eq_left', Int.cast_ofNat_Int, Int.natCast_zero, eq_self, List.size_toArray, Nat.reduceLT, Int.reduceLT, Int.reduceLE, Int.reduceToNat, Int.reduceAdd, Int.reduceSub, Int.reduceNeg, decide_true, decide_false, List.length_take, List.length_append, List.length_drop, hnm, Tryd.tf0, Tryd.tf1, Tryd.tf3, Tryd.tf5, Tryd.tf9, Tryd.tf22, Tryd.tf24, Tryd.teq24, Tryd.tf27, Tryd.teq30, Tryd.teq31, Tryd.tf34, Tryd.teq43, Tryd.tf44, Tryd.teq44, Tryd.teq48, Tryd.teq54, Tryd.teq63, Tryd.call14, Tryd.call15, Tryd.call17, Tryd.call33, hw, hub, his, l1, l2, l3]); repeat (refine And.intro (by omega) ?_))
    | ((first | with_reducible apply WL_nil | with_reducible apply W_label | with_reducible apply W_skip | with_reducible apply W_exit | with_reducible apply W_ret | with_reducible apply popsD_done); try simp only [seqK, blockK, scopeK, ↓reduceIte, Nat.reduceEqDiff])
    | with_reducible exact popsD_stop
    | (with_reducible apply W_cond_k; intro _ _ ea eb; (simp only [condK, not_true_eq_false, not_false_eq_true, opnd, constPV, List.getD_cons_zero, List.getD_cons_succ, fr_getD_cons, fr_getD_nil, Nat.reduceEqDiff, Nat.reduceLT, ↓reduceIte, decide_eq_true_eq, decide_eq_false_iff_not, reduceCtorEq, false_implies, true_implies, and_true, true_and, Bool.not_eq_true, Bool.not_eq_false, forall_const, bne_iff_ne, bne_eq_false_iff_eq, beq_iff_eq, beq_eq_false_iff_ne, ne_eq, Decidable.not_not, Bool.not_eq_eq_eq_not, Bool.not_true, Bool.not_false, Bool.and_eq_true, Bool.or_eq_true, Int.natCast_inj, Bool.and_eq_false_iff, Bool.or_eq_false_iff]); subst ea eb; first | (refine ⟨fun hc => ?_, fun hc => ?_⟩ <;> first | (exfalso; omega) | (exfalso; exact hc trivial) | skip) | skip)
    | (with_reducible apply hnx; clear hnx nx)
    | (with_reducible refine And.intro (by omega) ?_)
    | (with_reducible refine And.intro ?_ ?_)
    | (with_reducible refine pcall_k (begin_c G) ?_; rintro _ _ ⟨rfl, rfl⟩ -; refine Ev_in ?_)
    | (with_reducible refine pcall_k (a0) ?_; rintro _ _ ⟨rfl, rfl⟩ -; refine Ev_in ?_)
    | (clear hnx nx; with_reducible apply hnx; clear hnx nx)
    | (clear hnx nx; clear hnx nx; with_reducible apply hnx; clear hnx nx)
    | (clear hnx nx; clear hnx nx; clear hnx nx; with_reducible apply hnx; clear hnx nx))
  all_goals first
    | exact rfl
    | skip
  all_goals
    rw [hZ] at mkT
    apply mkT
    rotate_left
    · simp only [List.forall_mem_cons, List.not_mem_nil, false_implies, implies_true, and_true, fr_getD_cons, fr_getD_nil, Nat.reduceEqDiff, Nat.reduceLT, ↓reduceIte]
      exact ⟨trivial, trivial, rfl⟩
    · exact ⟨by simp [List.replicate_succ], by simp [names, hnm]⟩
    · simp [hnm]
end Go.PM
