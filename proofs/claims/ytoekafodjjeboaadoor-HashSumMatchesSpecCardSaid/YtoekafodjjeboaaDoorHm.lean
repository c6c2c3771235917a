/- Digests: plainly; the contracts of the reference's functions. Conditions: none but those that each names. -/
import Derived.Test.YtoekafodjjeboaaDoorHl
set_option linter.unusedSimpArgs false
set_option linter.unusedVariables false
namespace Go.PM
open Go.Proofs
attribute [local irreducible] W PCalls pcall pcallI WL

def tagB (tag : Int) : UInt8 := UInt8.ofNat (tag % 256).toNat
def ofIn (tag : Int) (parts : List (List UInt8)) : List UInt8 := tagB tag :: parts.flatMap bytesB
def ofH (tag : Int) (parts : List (List UInt8)) : List UInt8 := (sha (ofIn tag parts)).take 16
theorem ofH_len (tag : Int) (parts : List (List UInt8)) : (ofH tag parts).length = 16 := by rw [ofH, List.length_take, sha_len]; rfl
theorem tagB_wrap (tag : Int) : IntKind.u8.wrap tag = (((tagB tag).toNat : Nat) : Int) := by
  have h : (tag % 256).toNat < 256 := by omega
  have h2 : (tagB tag).toNat = (tag % 256).toNat := UInt8.toNat_ofNat_of_lt' (by simpa using h)
  rw [h2]
  simp [IntKind.wrap, IntKind.bits, IntKind.signed]
  omega
theorem bytesB_len (s : List UInt8) (h : s.length ≤ 4000) : (bytesB s).length ≤ s.length + 9 := by
  have := intB_len9 (n := s.length) ⟨by omega, by omega⟩
  rw [bytesB, List.length_append]
  omega
theorem flat_le : ∀ (parts : List (List UInt8)), (∀ p ∈ parts, p.length ≤ 4000) → (parts.flatMap bytesB).length ≤ parts.length * 4009
  | [], _ => by simp
  | p :: ps, h => by
    have h1 := bytesB_len p (h p (.head _))
    have h2 := h p (.head _)
    have h3 := flat_le ps fun q hq => h q (.tail _ hq)
    rw [List.flatMap_cons, List.length_append, List.length_cons]
    omega
def preP (tag : Int) (parts : List (List UInt8)) (i : Nat) : List UInt8 := tagB tag :: (parts.take i).flatMap bytesB
theorem preP_zero (tag : Int) (parts : List (List UInt8)) : preP tag parts 0 = [tagB tag] := by simp [preP]
theorem preP_succ (tag : Int) (parts : List (List UInt8)) (i : Nat) (p : List UInt8) (h : parts[i]? = some p) : preP tag parts (i + 1) = preP tag parts i ++ bytesB p := by
  rw [preP, List.take_add_one, h, Option.toList_some, List.flatMap_append, List.flatMap_singleton, preP]
  rfl
theorem preP_all (tag : Int) (parts : List (List UInt8)) (i : Nat) (h : parts.length ≤ i) : preP tag parts i = ofIn tag parts := by
  rw [preP, List.take_of_length_le h, ofIn]
theorem preP_le (tag : Int) (parts : List (List UInt8)) (i : Nat) (h : ∀ p ∈ parts, p.length ≤ 4000) (hn : parts.length ≤ 100) : (preP tag parts i).length ≤ 400901 := by
  have h1 := flat_le (parts.take i) fun p hp => h p (List.mem_of_mem_take hp)
  rw [preP, List.length_cons]
  rw [List.length_take] at h1
  have : min i parts.length ≤ 100 := by omega
  have := Nat.mul_le_mul_right 4009 this
  omega
theorem ofIn_le (tag : Int) (parts : List (List UInt8)) (h : ∀ p ∈ parts, p.length ≤ 4000) (hn : parts.length ≤ 100) : (ofIn tag parts).length ≤ 400901 := by
  rw [← preP_all tag parts parts.length (Nat.le_refl _)]
  exact preP_le tag parts _ h hn

set_option maxRecDepth 100000 in
set_option maxHeartbeats 8000000 in
theorem input_r (G : Globs) (tag : Int) (parts : List (List UInt8)) (h : ∀ p ∈ parts, p.length ≤ 4000) (hn : parts.length ≤ 100) : PCalls Tryd.prog G 23 [pint .i64 tag, .list 1 (parts.map pstr)] [] (RowB (ofIn tag parts)) := by
  have hw := tagB_wrap tag
  (refine PCalls_f Tryd.func23 rfl Tryd.ntmps23 Tryd.results23 (by simp) fun fin hfin => ?_; have hnm : True := trivial; simp (maxSteps := 2000000) (disch := omega) only [↓popG_eq, ↓pop.eq_1, ↓List.getElem?_map, ↓List.getElem?_cons_zero, ↓List.getElem?_cons_succ, pbuiltin, opnd, constPV, PState.put, fr_set, fr_getD_nil, fr_same, fr_other, layFrom, List.set, pnck, pguard_tt, pguard_tf, pguard_ft, pguard_ff, seqK, blockK, scopeK, List.map_cons, List.map_nil, List.getD_cons_zero, List.getD_cons_succ, List.getD_nil, List.getElem?_nil, Option.join_some, Option.join_none, pbin, pun, ppick, plen, pldop, pload, pfaddr, piaddr, pindex, pfield, pslice, pbound, pconv, pelems, pextract, pmm, parr, pbuild, pfill, PV.mem?, PV.one, PV.cells, pageq, peqs, peq1, palloc, pbox, pbuildS, pmakes, pstore, pappend, pcopy, pbytes, pmark, psrc, vcells, Value.oneCell', look, upd, del, names, Option.map_some, Option.map_none, List.length_cons, List.length_nil, List.all_cons, List.all_nil, Bool.and_true, Bool.true_and, Bool.not_true, Bool.not_false, List.take_zero, List.drop_zero, List.nil_append, List.cons_append, List.append_nil, Nat.reduceAdd, Nat.reduceMul, Nat.reduceSub, Nat.reduceLeDiff, Nat.reduceEqDiff, Nat.zero_add, Nat.add_zero, Nat.mul_one, Nat.zero_mul, List.drop_succ_cons, List.take_succ_cons, List.drop_nil, List.take_nil, ↓reduceIte, ne_eq, true_and, and_true, not_false_eq_true, reduceCtorEq, forall_const, List.toList_toArray, times, List.replicate_succ, List.replicate_zero, List.flatten_cons, List.flatten_nil, Value.cells, Int.toNat_natCast, Int.toNat_zero, Int.toNat_one, bl_mk, bl_lit, wr64, toNat_add1, toNat_sub1, map_getD, Int.natCast_nonneg, List.length_map, Bool.not_not, List.not_mem_nil, Option.some.injEq, exists_and_left, exists_eq_left', Int.cast_ofNat_Int, Int.natCast_zero, eq_self, List.size_toArray, Nat.reduceLT, Int.reduceLT, Int.reduceLE, Int.reduceToNat, Int.reduceAdd, Int.reduceSub, Int.reduceNeg, decide_true, decide_false, List.length_take, List.length_append, List.length_drop, hnm, Tryd.tf0, Tryd.tf1, Tryd.tf3, Tryd.tf4, Tryd.tf5, Tryd.tf9, Tryd.tf22, Tryd.teq24, Tryd.tf27, Tryd.teq30, Tryd.teq31, Tryd.teq43, Tryd.teq44, Tryd.teq48, Tryd.teq54, Tryd.teq63, Tryd.call35])
  repeat' (first
    | (with_reducible apply W_seq_k; intro nx hnx)
    | with_reducible apply W_block
    | with_reducible apply W_scope
    | (with_reducible refine W_prune 115 ?_; simp only [prune_cons, prune_nil, Nat.reducePow, Nat.reduceDiv, Nat.reduceMod, Nat.reduceBEq, cond_true, cond_false]; with_reducible apply W_region_l)
    | ((first | (with_reducible apply WL_op; intro nx hnx) | with_reducible refine Ev_out ?_ | (with_reducible refine pfresh_k hnm fun nm hnm => ?_; (try simp only [List.forall_mem_cons, List.not_mem_nil, false_implies, implies_true, and_true, true_and, ne_eq] at hnm))); try (simp (maxSteps := 2000000) (disch := omega) only [↓popG_eq, ↓pop.eq_1, ↓List.getElem?_map, ↓List.getElem?_cons_zero, ↓List.getElem?_cons_succ, pbuiltin, opnd, constPV, PState.put, fr_set, fr_getD_nil, fr_same, fr_other, layFrom, List.set, pnck, pguard_tt, pguard_tf, pguard_ft, pguard_ff, seqK, blockK, scopeK, List.map_cons, List.map_nil, List.getD_cons_zero, List.getD_cons_succ, List.getD_nil, List.getElem?_nil, Option.join_some, Option.join_none, pbin, pun, ppick, plen, pldop, pload, pfaddr, piaddr, pindex, pfield, pslice, pbound, pconv, pelems, pextract, pmm, parr, pbuild, pfill, PV.mem?, PV.one, PV.cells, pageq, peqs, peq1, palloc, pbox, pbuildS, pmakes, pstore, pappend, pcopy, pbytes, pmark, psrc, vcells, Value.oneCell', look, upd, del, names, Option.map_some, Option.map_none, List.length_cons, List.length_nil, List.all_cons, List.all_nil, Bool.and_true, Bool.true_and, Bool.not_true, Bool.not_false, List.take_zero, List.drop_zero, List.nil_append, List.cons_append, List.append_nil, Nat.reduceAdd, Nat.reduceMul, Nat.reduceSub, Nat.reduceLeDiff, Nat.reduceEqDiff, Nat.zero_add, Nat.add_zero, Nat.mul_one, Nat.zero_mul, List.drop_succ_cons, List.take_succ_cons, List.drop_nil, List.take_nil, ↓reduceIte, ne_eq, true_and, and_true, not_false_eq_true, reduceCtorEq, forall_const, List.toList_toArray, times, List.replicate_succ, List.replicate_zero, List.flatten_cons, List.flatten_nil, Value.cells, Int.toNat_natCast, Int.toNat_zero, Int.toNat_one, bl_mk, bl_lit, wr64, toNat_add1, toNat_sub1, map_getD, Int.natCast_nonneg, List.length_map, Bool.not_not, List.not_mem_nil, Option.some.injEq, exists_and_left, exists_eq_left', Int.cast_ofNat_Int, Int.natCast_zero, eq_self, List.size_toArray, Nat.reduceLT, Int.reduceLT, Int.reduceLE, Int.reduceToNat, Int.reduceAdd, Int.reduceSub, Int.reduceNeg, decide_true, decide_false, List.length_take, List.length_append, List.length_drop, hnm, Tryd.tf0, Tryd.tf1, Tryd.tf3, Tryd.tf4, Tryd.tf5, Tryd.tf9, Tryd.tf22, Tryd.teq24, Tryd.tf27, Tryd.teq30, Tryd.teq31, Tryd.teq43, Tryd.teq44, Tryd.teq48, Tryd.teq54, Tryd.teq63, Tryd.call35, hw]); repeat (refine And.intro (by omega) ?_))
    | ((first | with_reducible apply WL_nil | with_reducible apply W_label | with_reducible apply W_skip | with_reducible apply W_exit | with_reducible apply W_ret); try simp only [seqK, blockK, scopeK, ↓reduceIte, Nat.reduceEqDiff])
    | (with_reducible apply W_cond_k; intro _ _ ea eb; (simp only [condK, not_true_eq_false, not_false_eq_true, opnd, constPV, List.getD_cons_zero, List.getD_cons_succ, fr_getD_cons, fr_getD_nil, Nat.reduceEqDiff, Nat.reduceLT, ↓reduceIte, decide_eq_true_eq, decide_eq_false_iff_not, reduceCtorEq, false_implies, true_implies, and_true, true_and, Bool.not_eq_true, Bool.not_eq_false, forall_const, bne_iff_ne, bne_eq_false_iff_eq, beq_iff_eq, beq_eq_false_iff_ne, ne_eq, Decidable.not_not, Bool.not_eq_eq_eq_not, Bool.not_true, Bool.not_false, Bool.and_eq_true, Bool.or_eq_true, Int.natCast_inj, Bool.and_eq_false_iff, Bool.or_eq_false_iff]); subst ea eb; first | (refine ⟨fun hc => ?_, fun hc => ?_⟩ <;> first | (exfalso; omega) | (exfalso; exact hc trivial) | skip) | skip)
    | (with_reducible apply hnx; clear hnx nx)
    | (with_reducible refine And.intro (by omega) ?_)
    | (with_reducible refine And.intro ?_ ?_)
    | (clear hnx nx; with_reducible apply hnx; clear hnx nx)
    | (clear hnx nx; clear hnx nx; with_reducible apply hnx; clear hnx nx)
    | (clear hnx nx; clear hnx nx; clear hnx nx; with_reducible apply hnx; clear hnx nx))
  refine W_loop_k (fun z τ => ∃ (i : Nat) (N : Int) (o : List UInt8), i ≤ parts.length ∧ z = parts.length - i ∧ o = preP tag parts i ∧ τ = ⟨fr 24 [(1, .list 1 (parts.map pstr)), (5, .row N 1 o.length), (6, pint .i64 i)], [(N, ⟨5, true, 1, o.map pbyte⟩)]⟩) parts.length
    ⟨fr 24 [(1, .list 1 (parts.map pstr)), (5, .row nm 1 1), (6, pint .i64 (0 : Nat))], [(nm, ⟨5, true, 1, [pbyte (tagB tag)]⟩)]⟩ (by
    exact Wk_fr (by simp only [List.forall_mem_cons, List.not_mem_nil, false_implies, implies_true, and_true, true_and, and_self, fr_getD_cons, fr_getD_nil, Nat.reduceEqDiff, Nat.reduceLT, ↓reduceIte, Int.natCast_add, Int.cast_ofNat_Int, Int.natCast_zero]) ⟨by simp, by simp [names]⟩) ⟨0, nm, [tagB tag], by omega, by omega, by rw [preP_zero], rfl⟩ ?_
  rintro z τ ⟨i, N, o, hi, rfl, ho, rfl⟩ lp hlp
  have hle := preP_le tag parts i h hn
  rw [← ho] at hle
  by_cases hik : i < parts.length
  · obtain ⟨p, hg⟩ : ∃ p, parts[i]? = some p := ⟨_, List.getElem?_eq_getElem hik⟩
    have hg2 : parts[i]'(by omega) = p := by
      rw [List.getElem?_eq_getElem hik] at hg
      exact Option.some.inj hg
    have hp := h p (List.mem_of_getElem? hg)
    have hbl := bytesB_len p hp
    have hsu := preP_succ tag parts i p hg
    repeat' (first
    | (with_reducible apply W_seq_k; intro nx hnx)
    | with_reducible apply W_block
    | with_reducible apply W_scope
    | (with_reducible refine W_prune 115 ?_; simp only [prune_cons, prune_nil, Nat.reducePow, Nat.reduceDiv, Nat.reduceMod, Nat.reduceBEq, cond_true, cond_false]; with_reducible apply W_region_l)
    | ((first | (with_reducible apply WL_op; intro nx hnx) | with_reducible refine Ev_out ?_ | (with_reducible refine pfresh_k hnm fun nm hnm => ?_; (try simp only [List.forall_mem_cons, List.not_mem_nil, false_implies, implies_true, and_true, true_and, ne_eq] at hnm))); try (simp (maxSteps := 2000000) (disch := omega) only [↓popG_eq, ↓pop.eq_1, ↓List.getElem?_map, ↓List.getElem?_cons_zero, ↓List.getElem?_cons_succ, pbuiltin, opnd, constPV, PState.put, fr_set, fr_getD_nil, fr_same, fr_other, layFrom, List.set, pnck, pguard_tt, pguard_tf, pguard_ft, pguard_ff, seqK, blockK, scopeK, List.map_cons, List.map_nil, List.getD_cons_zero, List.getD_cons_succ, List.getD_nil, List.getElem?_nil, Option.join_some, Option.join_none, pbin, pun, ppick, plen, pldop, pload, pfaddr, piaddr, pindex, pfield, pslice, pbound, pconv, pelems, pextract, pmm, parr, pbuild, pfill, PV.mem?, PV.one, PV.cells, pageq, peqs, peq1, palloc, pbox, pbuildS, pmakes, pstore, pappend, pcopy, pbytes, pmark, psrc, vcells, Value.oneCell', look, upd, del, names, Option.map_some, Option.map_none, List.length_cons, List.length_nil, List.all_cons, List.all_nil, Bool.and_true, Bool.true_and, Bool.not_true, Bool.not_false, List.take_zero, List.drop_zero, List.nil_append, List.cons_append, List.append_nil, Nat.reduceAdd, Nat.reduceMul, Nat.reduceSub, Nat.reduceLeDiff, Nat.reduceEqDiff, Nat.zero_add, Nat.add_zero, Nat.mul_one, Nat.zero_mul, List.drop_succ_cons, List.take_succ_cons, List.drop_nil, List.take_nil, ↓reduceIte, ne_eq, true_and, and_true, not_false_eq_true, reduceCtorEq, forall_const, List.toList_toArray, times, List.replicate_succ, List.replicate_zero, List.flatten_cons, List.flatten_nil, Value.cells, Int.toNat_natCast, Int.toNat_zero, Int.toNat_one, bl_mk, bl_lit, wr64, toNat_add1, toNat_sub1, map_getD, Int.natCast_nonneg, List.length_map, Bool.not_not, List.not_mem_nil, Option.some.injEq, exists_and_left, exists_eq_left', Int.cast_ofNat_Int, Int.natCast_zero, eq_self, List.size_toArray, Nat.reduceLT, Int.reduceLT, Int.reduceLE, Int.reduceToNat, Int.reduceAdd, Int.reduceSub, Int.reduceNeg, decide_true, decide_false, List.length_take, List.length_append, List.length_drop, hnm, Tryd.tf0, Tryd.tf1, Tryd.tf3, Tryd.tf4, Tryd.tf5, Tryd.tf9, Tryd.tf22, Tryd.teq24, Tryd.tf27, Tryd.teq30, Tryd.teq31, Tryd.teq43, Tryd.teq44, Tryd.teq48, Tryd.teq54, Tryd.teq63, Tryd.call35, hg, hg2, flat_pb]); repeat (refine And.intro (by omega) ?_))
    | ((first | with_reducible apply WL_nil | with_reducible apply W_label | with_reducible apply W_skip | with_reducible apply W_exit | with_reducible apply W_ret); try simp only [seqK, blockK, scopeK, ↓reduceIte, Nat.reduceEqDiff])
    | (with_reducible apply W_cond_k; intro _ _ ea eb; (simp only [condK, not_true_eq_false, not_false_eq_true, opnd, constPV, List.getD_cons_zero, List.getD_cons_succ, fr_getD_cons, fr_getD_nil, Nat.reduceEqDiff, Nat.reduceLT, ↓reduceIte, decide_eq_true_eq, decide_eq_false_iff_not, reduceCtorEq, false_implies, true_implies, and_true, true_and, Bool.not_eq_true, Bool.not_eq_false, forall_const, bne_iff_ne, bne_eq_false_iff_eq, beq_iff_eq, beq_eq_false_iff_ne, ne_eq, Decidable.not_not, Bool.not_eq_eq_eq_not, Bool.not_true, Bool.not_false, Bool.and_eq_true, Bool.or_eq_true, Int.natCast_inj, Bool.and_eq_false_iff, Bool.or_eq_false_iff]); subst ea eb; first | (refine ⟨fun hc => ?_, fun hc => ?_⟩ <;> first | (exfalso; omega) | (exfalso; exact hc trivial) | skip) | skip)
    | (with_reducible apply hnx; clear hnx nx)
    | (with_reducible refine And.intro (by omega) ?_)
    | (with_reducible refine And.intro ?_ ?_)
    | (with_reducible refine pcall_k (rbytes_c G p (by omega)) ?_; rintro _ _ ⟨rfl, rfl⟩ -; refine Ev_in ?_)
    | (clear hnx nx; with_reducible apply hnx; clear hnx nx)
    | (clear hnx nx; clear hnx nx; with_reducible apply hnx; clear hnx nx)
    | (clear hnx nx; clear hnx nx; clear hnx nx; with_reducible apply hnx; clear hnx nx))
    all_goals first
      | (exfalso
         omega)
      | (refine hlp _ (parts.length - (i + 1)) _ (by omega) ?_ ⟨i + 1, nm, o ++ bytesB p, by omega, rfl, by rw [hsu, ho], rfl⟩
         rw [List.length_append, List.map_append]
         exact Wk_fr (by simp only [List.forall_mem_cons, List.not_mem_nil, false_implies, implies_true, and_true, true_and, and_self, fr_getD_cons, fr_getD_nil, Nat.reduceEqDiff, Nat.reduceLT, ↓reduceIte, Int.natCast_add, Int.cast_ofNat_Int, Int.natCast_zero, List.length_cons, List.length_nil, Nat.zero_add]) ⟨by simp, by simp [names]⟩)
  · have hoh : o = ofIn tag parts := by rw [ho, preP_all _ _ _ (by omega)]
    rw [← hoh] at hfin
    repeat' (first
    | (with_reducible apply W_seq_k; intro nx hnx)
    | with_reducible apply W_block
    | with_reducible apply W_scope
    | (with_reducible refine W_prune 115 ?_; simp only [prune_cons, prune_nil, Nat.reducePow, Nat.reduceDiv, Nat.reduceMod, Nat.reduceBEq, cond_true, cond_false]; with_reducible apply W_region_l)
    | ((first | (with_reducible apply WL_op; intro nx hnx) | with_reducible refine Ev_out ?_ | (with_reducible refine pfresh_k hnm fun nm hnm => ?_; (try simp only [List.forall_mem_cons, List.not_mem_nil, false_implies, implies_true, and_true, true_and, ne_eq] at hnm))); try (simp (maxSteps := 2000000) (disch := omega) only [↓popG_eq, ↓pop.eq_1, ↓List.getElem?_map, ↓List.getElem?_cons_zero, ↓List.getElem?_cons_succ, pbuiltin, opnd, constPV, PState.put, fr_set, fr_getD_nil, fr_same, fr_other, layFrom, List.set, pnck, pguard_tt, pguard_tf, pguard_ft, pguard_ff, seqK, blockK, scopeK, List.map_cons, List.map_nil, List.getD_cons_zero, List.getD_cons_succ, List.getD_nil, List.getElem?_nil, Option.join_some, Option.join_none, pbin, pun, ppick, plen, pldop, pload, pfaddr, piaddr, pindex, pfield, pslice, pbound, pconv, pelems, pextract, pmm, parr, pbuild, pfill, PV.mem?, PV.one, PV.cells, pageq, peqs, peq1, palloc, pbox, pbuildS, pmakes, pstore, pappend, pcopy, pbytes, pmark, psrc, vcells, Value.oneCell', look, upd, del, names, Option.map_some, Option.map_none, List.length_cons, List.length_nil, List.all_cons, List.all_nil, Bool.and_true, Bool.true_and, Bool.not_true, Bool.not_false, List.take_zero, List.drop_zero, List.nil_append, List.cons_append, List.append_nil, Nat.reduceAdd, Nat.reduceMul, Nat.reduceSub, Nat.reduceLeDiff, Nat.reduceEqDiff, Nat.zero_add, Nat.add_zero, Nat.mul_one, Nat.zero_mul, List.drop_succ_cons, List.take_succ_cons, List.drop_nil, List.take_nil, ↓reduceIte, ne_eq, true_and, and_true, not_false_eq_true, reduceCtorEq, forall_const, List.toList_toArray, times, List.replicate_succ, List.replicate_zero, List.flatten_cons, List.flatten_nil, Value.cells, Int.toNat_natCast, Int.toNat_zero, Int.toNat_one, bl_mk, bl_lit, wr64, toNat_add1, toNat_sub1, map_getD, Int.natCast_nonneg, List.length_map, Bool.not_not, List.not_mem_nil, Option.some.injEq, exists_and_left, exists_eq_left', Int.cast_ofNat_Int, Int.natCast_zero, eq_self, List.size_toArray, Nat.reduceLT, Int.reduceLT, Int.reduceLE, Int.reduceToNat, Int.reduceAdd, Int.reduceSub, Int.reduceNeg, decide_true, decide_false, List.length_take, List.length_append, List.length_drop, hnm, Tryd.tf0, Tryd.tf1, Tryd.tf3, Tryd.tf4, Tryd.tf5, Tryd.tf9, Tryd.tf22, Tryd.teq24, Tryd.tf27, Tryd.teq30, Tryd.teq31, Tryd.teq43, Tryd.teq44, Tryd.teq48, Tryd.teq54, Tryd.teq63, Tryd.call35]); repeat (refine And.intro (by omega) ?_))
    | ((first | with_reducible apply WL_nil | with_reducible apply W_label | with_reducible apply W_skip | with_reducible apply W_exit | with_reducible apply W_ret); try simp only [seqK, blockK, scopeK, ↓reduceIte, Nat.reduceEqDiff])
    | (with_reducible apply W_cond_k; intro _ _ ea eb; (simp only [condK, not_true_eq_false, not_false_eq_true, opnd, constPV, List.getD_cons_zero, List.getD_cons_succ, fr_getD_cons, fr_getD_nil, Nat.reduceEqDiff, Nat.reduceLT, ↓reduceIte, decide_eq_true_eq, decide_eq_false_iff_not, reduceCtorEq, false_implies, true_implies, and_true, true_and, Bool.not_eq_true, Bool.not_eq_false, forall_const, bne_iff_ne, bne_eq_false_iff_eq, beq_iff_eq, beq_eq_false_iff_ne, ne_eq, Decidable.not_not, Bool.not_eq_eq_eq_not, Bool.not_true, Bool.not_false, Bool.and_eq_true, Bool.or_eq_true, Int.natCast_inj, Bool.and_eq_false_iff, Bool.or_eq_false_iff]); subst ea eb; first | (refine ⟨fun hc => ?_, fun hc => ?_⟩ <;> first | (exfalso; omega) | (exfalso; exact hc trivial) | skip) | skip)
    | (with_reducible apply hnx; clear hnx nx)
    | (with_reducible refine And.intro (by omega) ?_)
    | (with_reducible refine And.intro ?_ ?_)
    | (clear hnx nx; with_reducible apply hnx; clear hnx nx)
    | (clear hnx nx; clear hnx nx; with_reducible apply hnx; clear hnx nx)
    | (clear hnx nx; clear hnx nx; clear hnx nx; with_reducible apply hnx; clear hnx nx))
    all_goals first
      | (exfalso
         omega)
      | (refine hfin _ _ (Fin_ret1 rfl (Sub_refl (by simp [names])) ?_); simp only [List.getD_cons_zero, List.getD_cons_succ, fr_getD_cons, fr_getD_nil, Nat.reduceEqDiff, Nat.reduceLT, ↓reduceIte]
         exact ⟨N, rfl, rfl⟩)
theorem input_c (G : Globs) (tag : Int) (parts : List (List UInt8)) (h : ∀ p ∈ parts, p.length ≤ 4000) (hn : parts.length ≤ 100) : PCalls Tryd.prog G 23 [pint .i64 tag, .list 1 (parts.map pstr)] [] (fun res H => res = .list 1 ((ofIn tag parts).map pbyte) ∧ H = []) := RowB.frz (input_r G tag parts h hn)

/-- Bytes that are put in one after the other. -/
def bC (h : List UInt8) (i : Nat) : List PV := tab 16 fun m => if m < i then pbyte (h.getD m 0) else pint .u8 0
theorem bC_len (h : List UInt8) (i : Nat) : (bC h i).length = 16 := tab_len _ _
theorem bC_zero (h : List UInt8) : bC h 0 = List.replicate 16 (pint .u8 0) := by
  rw [bC, tab_congr (g := fun _ => pint .u8 0) (fun i _ => by simp)]
  simp [tab, List.range_succ]
theorem bC_set (h : List UInt8) (i : Nat) (hi : i < 16) : List.take i (bC h i) ++ [pbyte (h.getD i 0)] ++ List.drop (i + 1) (bC h i) = bC h (i + 1) := by
  rw [bC, tab_set hi, bC]
  refine tab_congr fun m _ => ?_
  by_cases h1 : m = i
  · subst h1
    rw [if_pos rfl, if_pos (by omega)]
  · rw [if_neg h1]
    rcases Nat.lt_or_ge m i with h2 | h2
    · rw [if_pos h2, if_pos (by omega)]
    · rw [if_neg (by omega), if_neg (by omega)]
theorem bC_full (h : List UInt8) (hl : 16 ≤ h.length) : bC h 16 = (h.take 16).map pbyte := by
  apply List.ext_getElem?
  intro i
  rcases Nat.lt_or_ge i 16 with hi | hi
  · rw [bC, tab_get hi, if_pos hi, List.getElem?_map, List.getElem?_take_of_lt hi, List.getD_eq_getElem?_getD, List.getElem?_eq_getElem (by omega)]
    rfl
  · rw [List.getElem?_eq_none (by rw [bC_len]; exact hi), List.getElem?_eq_none (by rw [List.length_map, List.length_take]; omega)]
attribute [irreducible] bC

set_option maxRecDepth 100000 in
set_option maxHeartbeats 8000000 in
theorem short_c (G : Globs) (hG : G 0 = .iptr (KS.map pw) 0) (b : List UInt8) (hb : b.length ≤ 4294960000) : PCalls Tryd.prog G 34 [.list 1 (b.map pbyte)] [] (fun res H => res = .agg (((sha b).take 16).map pbyte) ∧ H = []) := by
  have hs := rsum_c G hG b (by omega)
  have hl := sha_len b
  generalize sha b = h at *
  have o1 := all_one_byte h
  have l1 : (h.map pbyte).length = 32 := by rw [List.length_map, hl]
  (refine PCalls_f Tryd.func34 rfl Tryd.ntmps34 Tryd.results34 (by simp) fun fin hfin => ?_; have hnm : True := trivial; simp (maxSteps := 2000000) (disch := omega) only [↓popG_eq, ↓pop.eq_1, ↓List.getElem?_map, ↓List.getElem?_cons_zero, ↓List.getElem?_cons_succ, pbuiltin, opnd, constPV, PState.put, fr_set, fr_getD_nil, fr_same, fr_other, layFrom, List.set, pnck, pguard_tt, pguard_tf, pguard_ft, pguard_ff, seqK, blockK, scopeK, List.map_cons, List.map_nil, List.getD_cons_zero, List.getD_cons_succ, List.getD_nil, List.getElem?_nil, Option.join_some, Option.join_none, pbin, pun, ppick, plen, pldop, pload, pfaddr, piaddr, pindex, pfield, pslice, pbound, pconv, pelems, pextract, pmm, parr, pbuild, pfill, PV.mem?, PV.one, PV.cells, pageq, peqs, peq1, palloc, pbox, pbuildS, pmakes, pstore, pappend, pcopy, pbytes, pmark, psrc, vcells, Value.oneCell', look, upd, del, names, Option.map_some, Option.map_none, List.length_cons, List.length_nil, List.all_cons, List.all_nil, Bool.and_true, Bool.true_and, Bool.not_true, Bool.not_false, List.take_zero, List.drop_zero, List.nil_append, List.cons_append, List.append_nil, Nat.reduceAdd, Nat.reduceMul, Nat.reduceSub, Nat.reduceLeDiff, Nat.reduceEqDiff, Nat.zero_add, Nat.add_zero, Nat.mul_one, Nat.zero_mul, List.drop_succ_cons, List.take_succ_cons, List.drop_nil, List.take_nil, ↓reduceIte, ne_eq, true_and, and_true, not_false_eq_true, reduceCtorEq, forall_const, List.toList_toArray, times, List.replicate_succ, List.replicate_zero, List.flatten_cons, List.flatten_nil, Value.cells, Int.toNat_natCast, Int.toNat_zero, Int.toNat_one, bl_mk, bl_lit, wr64, toNat_add1, toNat_sub1, map_getD, Int.natCast_nonneg, List.length_map, Bool.not_not, List.not_mem_nil, Option.some.injEq, exists_and_left, exists_eq_left', Int.cast_ofNat_Int, Int.natCast_zero, eq_self, List.size_toArray, Nat.reduceLT, Int.reduceLT, Int.reduceLE, Int.reduceToNat, Int.reduceAdd, Int.reduceSub, Int.reduceNeg, decide_true, decide_false, List.length_take, List.length_append, List.length_drop, hnm, Tryd.tf0, Tryd.tf3, Tryd.tf4, Tryd.tf5, Tryd.tf22, Tryd.tf24, Tryd.teq24, Tryd.teq30, Tryd.teq31, Tryd.teq43, Tryd.tf44, Tryd.teq44, Tryd.teq48, Tryd.teq54, Tryd.teq63, Tryd.call12])
  repeat' (first
    | (with_reducible apply W_seq_k; intro nx hnx)
    | with_reducible apply W_block
    | with_reducible apply W_scope
    | (with_reducible refine W_prune 61 ?_; simp only [prune_cons, prune_nil, Nat.reducePow, Nat.reduceDiv, Nat.reduceMod, Nat.reduceBEq, cond_true, cond_false]; with_reducible apply W_region_l)
    | ((first | (with_reducible apply WL_op; intro nx hnx) | with_reducible refine Ev_out ?_ | (with_reducible refine pfresh_k hnm fun nm hnm => ?_; (try simp only [List.forall_mem_cons, List.not_mem_nil, false_implies, implies_true, and_true, true_and, ne_eq] at hnm))); try (simp (maxSteps := 2000000) (disch := omega) only [↓popG_eq, ↓pop.eq_1, ↓List.getElem?_map, ↓List.getElem?_cons_zero, ↓List.getElem?_cons_succ, pbuiltin, opnd, constPV, PState.put, fr_set, fr_getD_nil, fr_same, fr_other, layFrom, List.set, pnck, pguard_tt, pguard_tf, pguard_ft, pguard_ff, seqK, blockK, scopeK, List.map_cons, List.map_nil, List.getD_cons_zero, List.getD_cons_succ, List.getD_nil, List.getElem?_nil, Option.join_some, Option.join_none, pbin, pun, ppick, plen, pldop, pload, pfaddr, piaddr, pindex, pfield, pslice, pbound, pconv, pelems, pextract, pmm, parr, pbuild, pfill, PV.mem?, PV.one, PV.cells, pageq, peqs, peq1, palloc, pbox, pbuildS, pmakes, pstore, pappend, pcopy, pbytes, pmark, psrc, vcells, Value.oneCell', look, upd, del, names, Option.map_some, Option.map_none, List.length_cons, List.length_nil, List.all_cons, List.all_nil, Bool.and_true, Bool.true_and, Bool.not_true, Bool.not_false, List.take_zero, List.drop_zero, List.nil_append, List.cons_append, List.append_nil, Nat.reduceAdd, Nat.reduceMul, Nat.reduceSub, Nat.reduceLeDiff, Nat.reduceEqDiff, Nat.zero_add, Nat.add_zero, Nat.mul_one, Nat.zero_mul, List.drop_succ_cons, List.take_succ_cons, List.drop_nil, List.take_nil, ↓reduceIte, ne_eq, true_and, and_true, not_false_eq_true, reduceCtorEq, forall_const, List.toList_toArray, times, List.replicate_succ, List.replicate_zero, List.flatten_cons, List.flatten_nil, Value.cells, Int.toNat_natCast, Int.toNat_zero, Int.toNat_one, bl_mk, bl_lit, wr64, toNat_add1, toNat_sub1, map_getD, Int.natCast_nonneg, List.length_map, Bool.not_not, List.not_mem_nil, Option.some.injEq, exists_and_left, exists_eq_left', Int.cast_ofNat_Int, Int.natCast_zero, eq_self, List.size_toArray, Nat.reduceLT, Int.reduceLT, Int.reduceLE, Int.reduceToNat, Int.reduceAdd, Int.reduceSub, Int.reduceNeg, decide_true, decide_false, List.length_take, List.length_append, List.length_drop, hnm, Tryd.tf0, Tryd.tf3, Tryd.tf4, Tryd.tf5, Tryd.tf22, Tryd.tf24, Tryd.teq24, Tryd.teq30, Tryd.teq31, Tryd.teq43, Tryd.tf44, Tryd.teq44, Tryd.teq48, Tryd.teq54, Tryd.teq63, Tryd.call12, o1, l1]); repeat (refine And.intro (by omega) ?_))
    | ((first | with_reducible apply WL_nil | with_reducible apply W_label | with_reducible apply W_skip | with_reducible apply W_exit | with_reducible apply W_ret); try simp only [seqK, blockK, scopeK, ↓reduceIte, Nat.reduceEqDiff])
    | (with_reducible apply W_cond_k; intro _ _ ea eb; (simp only [condK, not_true_eq_false, not_false_eq_true, opnd, constPV, List.getD_cons_zero, List.getD_cons_succ, fr_getD_cons, fr_getD_nil, Nat.reduceEqDiff, Nat.reduceLT, ↓reduceIte, decide_eq_true_eq, decide_eq_false_iff_not, reduceCtorEq, false_implies, true_implies, and_true, true_and, Bool.not_eq_true, Bool.not_eq_false, forall_const, bne_iff_ne, bne_eq_false_iff_eq, beq_iff_eq, beq_eq_false_iff_ne, ne_eq, Decidable.not_not, Bool.not_eq_eq_eq_not, Bool.not_true, Bool.not_false, Bool.and_eq_true, Bool.or_eq_true, Int.natCast_inj, Bool.and_eq_false_iff, Bool.or_eq_false_iff]); subst ea eb; first | (refine ⟨fun hc => ?_, fun hc => ?_⟩ <;> first | (exfalso; omega) | (exfalso; exact hc trivial) | skip) | skip)
    | (with_reducible apply hnx; clear hnx nx)
    | (with_reducible refine And.intro (by omega) ?_)
    | (with_reducible refine And.intro ?_ ?_)
    | (with_reducible refine pcall_k (hs) ?_; rintro _ _ ⟨rfl, rfl⟩ -; refine Ev_in ?_)
    | (clear hnx nx; with_reducible apply hnx; clear hnx nx)
    | (clear hnx nx; clear hnx nx; with_reducible apply hnx; clear hnx nx)
    | (clear hnx nx; clear hnx nx; clear hnx nx; with_reducible apply hnx; clear hnx nx))
  rename_i N2 _ N3 _
  have hnd : [nm, N3, N2].Nodup := by simp [hnm]
  refine W_loop_k (fun z τ => ∃ j : Nat, j ≤ 16 ∧ z = 16 - j ∧ τ = ⟨fr 19 [(5, pint .i64 j), (4, .ptr nm 0), (3, .ptr N3 0), (2, .ptr N2 0)], [(nm, ⟨44, false, 0, bC h j⟩), (N3, ⟨24, false, 0, h.map pbyte⟩), (N2, ⟨44, false, 0, bC h 0⟩)]⟩) 16
    ⟨fr 19 [(5, pint .i64 (0 : Nat)), (4, .ptr nm 0), (3, .ptr N3 0), (2, .ptr N2 0)], [(nm, ⟨44, false, 0, bC h 0⟩), (N3, ⟨24, false, 0, h.map pbyte⟩), (N2, ⟨44, false, 0, bC h 0⟩)]⟩ (by
    rw [bC_zero]
    refine Wk_fr (by simp only [List.forall_mem_cons, List.not_mem_nil, false_implies, implies_true, and_true, true_and, and_self, fr_getD_cons, fr_getD_nil, Nat.reduceEqDiff, Nat.reduceLT, ↓reduceIte, Int.natCast_add, Int.cast_ofNat_Int, Int.natCast_zero]) ?_
    exact Sub_refl hnd) ⟨0, by omega, by omega, rfl⟩ ?_
  rintro z τ ⟨j, hj, rfl, rfl⟩ lp hlp
  have hcl := bC_len h j
  have hcl0 := bC_len h 0
  by_cases hj2 : j < 16
  · obtain ⟨x, hx⟩ : ∃ x, x = h.getD j 0 := ⟨_, rfl⟩
    have hg : h[j]? = some x := by rw [hx, List.getD_eq_getElem?_getD, List.getElem?_eq_getElem (by omega)]; rfl
    have hg2 : h[j]'(by omega) = x := by
      rw [List.getElem?_eq_getElem (by omega)] at hg
      exact Option.some.inj hg
    have hset := bC_set h j hj2
    rw [← hx] at hset
    repeat' (first
    | (with_reducible apply W_seq_k; intro nx hnx)
    | with_reducible apply W_block
    | with_reducible apply W_scope
    | (with_reducible refine W_prune 61 ?_; simp only [prune_cons, prune_nil, Nat.reducePow, Nat.reduceDiv, Nat.reduceMod, Nat.reduceBEq, cond_true, cond_false]; with_reducible apply W_region_l)
    | ((first | (with_reducible apply WL_op; intro nx hnx) | with_reducible refine Ev_out ?_ | (with_reducible refine pfresh_k hnm fun nm hnm => ?_; (try simp only [List.forall_mem_cons, List.not_mem_nil, false_implies, implies_true, and_true, true_and, ne_eq] at hnm))); try (simp (maxSteps := 2000000) (disch := omega) only [↓popG_eq, ↓pop.eq_1, ↓List.getElem?_map, ↓List.getElem?_cons_zero, ↓List.getElem?_cons_succ, pbuiltin, opnd, constPV, PState.put, fr_set, fr_getD_nil, fr_same, fr_other, layFrom, List.set, pnck, pguard_tt, pguard_tf, pguard_ft, pguard_ff, seqK, blockK, scopeK, List.map_cons, List.map_nil, List.getD_cons_zero, List.getD_cons_succ, List.getD_nil, List.getElem?_nil, Option.join_some, Option.join_none, pbin, pun, ppick, plen, pldop, pload, pfaddr, piaddr, pindex, pfield, pslice, pbound, pconv, pelems, pextract, pmm, parr, pbuild, pfill, PV.mem?, PV.one, PV.cells, pageq, peqs, peq1, palloc, pbox, pbuildS, pmakes, pstore, pappend, pcopy, pbytes, pmark, psrc, vcells, Value.oneCell', look, upd, del, names, Option.map_some, Option.map_none, List.length_cons, List.length_nil, List.all_cons, List.all_nil, Bool.and_true, Bool.true_and, Bool.not_true, Bool.not_false, List.take_zero, List.drop_zero, List.nil_append, List.cons_append, List.append_nil, Nat.reduceAdd, Nat.reduceMul, Nat.reduceSub, Nat.reduceLeDiff, Nat.reduceEqDiff, Nat.zero_add, Nat.add_zero, Nat.mul_one, Nat.zero_mul, List.drop_succ_cons, List.take_succ_cons, List.drop_nil, List.take_nil, ↓reduceIte, ne_eq, true_and, and_true, not_false_eq_true, reduceCtorEq, forall_const, List.toList_toArray, times, List.replicate_succ, List.replicate_zero, List.flatten_cons, List.flatten_nil, Value.cells, Int.toNat_natCast, Int.toNat_zero, Int.toNat_one, bl_mk, bl_lit, wr64, toNat_add1, toNat_sub1, map_getD, Int.natCast_nonneg, List.length_map, Bool.not_not, List.not_mem_nil, Option.some.injEq, exists_and_left, exists_eq_left', Int.cast_ofNat_Int, Int.natCast_zero, eq_self, List.size_toArray, Nat.reduceLT, Int.reduceLT, Int.reduceLE, Int.reduceToNat, Int.reduceAdd, Int.reduceSub, Int.reduceNeg, decide_true, decide_false, List.length_take, List.length_append, List.length_drop, hnm, Tryd.tf0, Tryd.tf3, Tryd.tf4, Tryd.tf5, Tryd.tf22, Tryd.tf24, Tryd.teq24, Tryd.teq30, Tryd.teq31, Tryd.teq43, Tryd.tf44, Tryd.teq44, Tryd.teq48, Tryd.teq54, Tryd.teq63, Tryd.call12, l1, hl, hcl, hcl0, hg, hg2, hset]); repeat (refine And.intro (by omega) ?_))
    | ((first | with_reducible apply WL_nil | with_reducible apply W_label | with_reducible apply W_skip | with_reducible apply W_exit | with_reducible apply W_ret); try simp only [seqK, blockK, scopeK, ↓reduceIte, Nat.reduceEqDiff])
    | (with_reducible apply W_cond_k; intro _ _ ea eb; (simp only [condK, not_true_eq_false, not_false_eq_true, opnd, constPV, List.getD_cons_zero, List.getD_cons_succ, fr_getD_cons, fr_getD_nil, Nat.reduceEqDiff, Nat.reduceLT, ↓reduceIte, decide_eq_true_eq, decide_eq_false_iff_not, reduceCtorEq, false_implies, true_implies, and_true, true_and, Bool.not_eq_true, Bool.not_eq_false, forall_const, bne_iff_ne, bne_eq_false_iff_eq, beq_iff_eq, beq_eq_false_iff_ne, ne_eq, Decidable.not_not, Bool.not_eq_eq_eq_not, Bool.not_true, Bool.not_false, Bool.and_eq_true, Bool.or_eq_true, Int.natCast_inj, Bool.and_eq_false_iff, Bool.or_eq_false_iff]); subst ea eb; first | (refine ⟨fun hc => ?_, fun hc => ?_⟩ <;> first | (exfalso; omega) | (exfalso; exact hc trivial) | skip) | skip)
    | (with_reducible apply hnx; clear hnx nx)
    | (with_reducible refine And.intro (by omega) ?_)
    | (with_reducible refine And.intro ?_ ?_)
    | (clear hnx nx; with_reducible apply hnx; clear hnx nx)
    | (clear hnx nx; clear hnx nx; with_reducible apply hnx; clear hnx nx)
    | (clear hnx nx; clear hnx nx; clear hnx nx; with_reducible apply hnx; clear hnx nx))
    all_goals first
      | (exfalso
         omega)
      | (refine hlp _ (16 - (j + 1)) _ (by omega) ?_ ⟨j + 1, by omega, rfl, rfl⟩
         refine Wk_fr (by simp only [List.forall_mem_cons, List.not_mem_nil, false_implies, implies_true, and_true, true_and, and_self, fr_getD_cons, fr_getD_nil, Nat.reduceEqDiff, Nat.reduceLT, ↓reduceIte, Int.natCast_add, Int.cast_ofNat_Int, Int.natCast_zero]) ?_
         exact Sub_refl hnd)
  · have hje : j = 16 := by omega
    subst hje
    have hcf := bC_full h (by omega)
    have hone := all_one_byte (h.take 16)
    have hol : (h.take 16).length = 16 := by rw [List.length_take]; omega
    have htk : List.take 16 ((h.take 16).map pbyte) = (h.take 16).map pbyte := List.take_of_length_le (by rw [List.length_map]; omega)
    have hdr : List.drop 16 (bC h 0) = [] := List.drop_of_length_le (by omega)
    rw [hcf]
    generalize h.take 16 = q at *
    repeat' (first
    | (with_reducible apply W_seq_k; intro nx hnx)
    | with_reducible apply W_block
    | with_reducible apply W_scope
    | (with_reducible refine W_prune 61 ?_; simp only [prune_cons, prune_nil, Nat.reducePow, Nat.reduceDiv, Nat.reduceMod, Nat.reduceBEq, cond_true, cond_false]; with_reducible apply W_region_l)
    | ((first | (with_reducible apply WL_op; intro nx hnx) | with_reducible refine Ev_out ?_ | (with_reducible refine pfresh_k hnm fun nm hnm => ?_; (try simp only [List.forall_mem_cons, List.not_mem_nil, false_implies, implies_true, and_true, true_and, ne_eq] at hnm))); try (simp (maxSteps := 2000000) (disch := omega) only [↓popG_eq, ↓pop.eq_1, ↓List.getElem?_map, ↓List.getElem?_cons_zero, ↓List.getElem?_cons_succ, pbuiltin, opnd, constPV, PState.put, fr_set, fr_getD_nil, fr_same, fr_other, layFrom, List.set, pnck, pguard_tt, pguard_tf, pguard_ft, pguard_ff, seqK, blockK, scopeK, List.map_cons, List.map_nil, List.getD_cons_zero, List.getD_cons_succ, List.getD_nil, List.getElem?_nil, Option.join_some, Option.join_none, pbin, pun, ppick, plen, pldop, pload, pfaddr, piaddr, pindex, pfield, pslice, pbound, pconv, pelems, pextract, pmm, parr, pbuild, pfill, PV.mem?, PV.one, PV.cells, pageq, peqs, peq1, palloc, pbox, pbuildS, pmakes, pstore, pappend, pcopy, pbytes, pmark, psrc, vcells, Value.oneCell', look, upd, del, names, Option.map_some, Option.map_none, List.length_cons, List.length_nil, List.all_cons, List.all_nil, Bool.and_true, Bool.true_and, Bool.not_true, Bool.not_false, List.take_zero, List.drop_zero, List.nil_append, List.cons_append, List.append_nil, Nat.reduceAdd, Nat.reduceMul, Nat.reduceSub, Nat.reduceLeDiff, Nat.reduceEqDiff, Nat.zero_add, Nat.add_zero, Nat.mul_one, Nat.zero_mul, List.drop_succ_cons, List.take_succ_cons, List.drop_nil, List.take_nil, ↓reduceIte, ne_eq, true_and, and_true, not_false_eq_true, reduceCtorEq, forall_const, List.toList_toArray, times, List.replicate_succ, List.replicate_zero, List.flatten_cons, List.flatten_nil, Value.cells, Int.toNat_natCast, Int.toNat_zero, Int.toNat_one, bl_mk, bl_lit, wr64, toNat_add1, toNat_sub1, map_getD, Int.natCast_nonneg, List.length_map, Bool.not_not, List.not_mem_nil, Option.some.injEq, exists_and_left, exists_eq_left', Int.cast_ofNat_Int, Int.natCast_zero, eq_self, List.size_toArray, Nat.reduceLT, Int.reduceLT, Int.reduceLE, Int.reduceToNat, Int.reduceAdd, Int.reduceSub, Int.reduceNeg, decide_true, decide_false, List.length_take, List.length_append, List.length_drop, hnm, Tryd.tf0, Tryd.tf3, Tryd.tf4, Tryd.tf5, Tryd.tf22, Tryd.tf24, Tryd.teq24, Tryd.teq30, Tryd.teq31, Tryd.teq43, Tryd.tf44, Tryd.teq44, Tryd.teq48, Tryd.teq54, Tryd.teq63, Tryd.call12, hol, htk, hone, hcl0, hdr, Nat.min_self]); repeat (refine And.intro (by omega) ?_))
    | ((first | with_reducible apply WL_nil | with_reducible apply W_label | with_reducible apply W_skip | with_reducible apply W_exit | with_reducible apply W_ret); try simp only [seqK, blockK, scopeK, ↓reduceIte, Nat.reduceEqDiff])
    | (with_reducible apply W_cond_k; intro _ _ ea eb; (simp only [condK, not_true_eq_false, not_false_eq_true, opnd, constPV, List.getD_cons_zero, List.getD_cons_succ, fr_getD_cons, fr_getD_nil, Nat.reduceEqDiff, Nat.reduceLT, ↓reduceIte, decide_eq_true_eq, decide_eq_false_iff_not, reduceCtorEq, false_implies, true_implies, and_true, true_and, Bool.not_eq_true, Bool.not_eq_false, forall_const, bne_iff_ne, bne_eq_false_iff_eq, beq_iff_eq, beq_eq_false_iff_ne, ne_eq, Decidable.not_not, Bool.not_eq_eq_eq_not, Bool.not_true, Bool.not_false, Bool.and_eq_true, Bool.or_eq_true, Int.natCast_inj, Bool.and_eq_false_iff, Bool.or_eq_false_iff]); subst ea eb; first | (refine ⟨fun hc => ?_, fun hc => ?_⟩ <;> first | (exfalso; omega) | (exfalso; exact hc trivial) | skip) | skip)
    | (with_reducible apply hnx; clear hnx nx)
    | (with_reducible refine And.intro (by omega) ?_)
    | (with_reducible refine And.intro ?_ ?_)
    | (clear hnx nx; with_reducible apply hnx; clear hnx nx)
    | (clear hnx nx; clear hnx nx; with_reducible apply hnx; clear hnx nx)
    | (clear hnx nx; clear hnx nx; clear hnx nx; with_reducible apply hnx; clear hnx nx))
    all_goals first
      | (exfalso
         omega)
      | skip
    refine hfin _ _ (Fin_cell (res := .agg (q.map pbyte)) Tryd.tf44 (n := N2) (off := 0) (o := ⟨44, false, 0, q.map pbyte⟩) (by simp only [fr_getD_cons, Nat.reduceEqDiff, Nat.reduceLT, ↓reduceIte]) (by simp [look, hnm]) ?_ (Sub_nil _) ⟨rfl, rfl⟩)
    simp [pload, hol, htk, hone]

set_option maxRecDepth 100000 in
set_option maxHeartbeats 8000000 in
theorem rof_c (G : Globs) (hG : G 0 = .iptr (KS.map pw) 0) (tag : Int) (parts : List (List UInt8)) (h : ∀ p ∈ parts, p.length ≤ 4000) (hn : parts.length ≤ 100) : PCalls Tryd.prog G 22 [pint .i64 tag, .list 1 (parts.map pstr)] [] (fun res H => res = .agg ((ofH tag parts).map pbyte) ∧ H = []) := by
  have hle := ofIn_le tag parts h hn
  have c1 := input_c G tag parts h hn
  have c2 := short_c G hG (ofIn tag parts) (by omega)
  have hd : ofH tag parts = (sha (ofIn tag parts)).take 16 := rfl
  have hol := ofH_len tag parts
  rw [← hd] at c2
  have hone := all_one_byte (ofH tag parts)
  have htk : List.take 16 ((ofH tag parts).map pbyte) = (ofH tag parts).map pbyte := List.take_of_length_le (by rw [List.length_map]; omega)
  generalize ofH tag parts = q at *
  (refine PCalls_f Tryd.func22 rfl Tryd.ntmps22 Tryd.results22 (by simp) fun fin hfin => ?_; have hnm : True := trivial; simp (maxSteps := 2000000) (disch := omega) only [↓popG_eq, ↓pop.eq_1, ↓List.getElem?_map, ↓List.getElem?_cons_zero, ↓List.getElem?_cons_succ, pbuiltin, opnd, constPV, PState.put, fr_set, fr_getD_nil, fr_same, fr_other, layFrom, List.set, pnck, pguard_tt, pguard_tf, pguard_ft, pguard_ff, seqK, blockK, scopeK, List.map_cons, List.map_nil, List.getD_cons_zero, List.getD_cons_succ, List.getD_nil, List.getElem?_nil, Option.join_some, Option.join_none, pbin, pun, ppick, plen, pldop, pload, pfaddr, piaddr, pindex, pfield, pslice, pbound, pconv, pelems, pextract, pmm, parr, pbuild, pfill, PV.mem?, PV.one, PV.cells, pageq, peqs, peq1, palloc, pbox, pbuildS, pmakes, pstore, pappend, pcopy, pbytes, pmark, psrc, vcells, Value.oneCell', look, upd, del, names, Option.map_some, Option.map_none, List.length_cons, List.length_nil, List.all_cons, List.all_nil, Bool.and_true, Bool.true_and, Bool.not_true, Bool.not_false, List.take_zero, List.drop_zero, List.nil_append, List.cons_append, List.append_nil, Nat.reduceAdd, Nat.reduceMul, Nat.reduceSub, Nat.reduceLeDiff, Nat.reduceEqDiff, Nat.zero_add, Nat.add_zero, Nat.mul_one, Nat.zero_mul, List.drop_succ_cons, List.take_succ_cons, List.drop_nil, List.take_nil, ↓reduceIte, ne_eq, true_and, and_true, not_false_eq_true, reduceCtorEq, forall_const, List.toList_toArray, times, List.replicate_succ, List.replicate_zero, List.flatten_cons, List.flatten_nil, Value.cells, Int.toNat_natCast, Int.toNat_zero, Int.toNat_one, bl_mk, bl_lit, wr64, toNat_add1, toNat_sub1, map_getD, Int.natCast_nonneg, List.length_map, Bool.not_not, List.not_mem_nil, Option.some.injEq, exists_and_left, exists_eq_left', Int.cast_ofNat_Int, Int.natCast_zero, eq_self, List.size_toArray, Nat.reduceLT, Int.reduceLT, Int.reduceLE, Int.reduceToNat, Int.reduceAdd, Int.reduceSub, Int.reduceNeg, decide_true, decide_false, List.length_take, List.length_append, List.length_drop, hnm, Tryd.tf0, Tryd.tf3, Tryd.tf5, Tryd.tf9, Tryd.tf22, Tryd.teq24, Tryd.tf27, Tryd.teq30, Tryd.teq31, Tryd.teq43, Tryd.tf44, Tryd.teq44, Tryd.teq48, Tryd.teq54, Tryd.teq63, Tryd.call23, Tryd.call34])
  repeat' (first
    | (with_reducible apply W_seq_k; intro nx hnx)
    | with_reducible apply W_block
    | with_reducible apply W_scope
    | (with_reducible refine W_prune 19 ?_; simp only [prune_cons, prune_nil, Nat.reducePow, Nat.reduceDiv, Nat.reduceMod, Nat.reduceBEq, cond_true, cond_false]; with_reducible apply W_region_l)
    | ((first | (with_reducible apply WL_op; intro nx hnx) | with_reducible refine Ev_out ?_ | (with_reducible refine pfresh_k hnm fun nm hnm => ?_; (try simp only [List.forall_mem_cons, List.not_mem_nil, false_implies, implies_true, and_true, true_and, ne_eq] at hnm))); try (simp (maxSteps := 2000000) (disch := omega) only [↓popG_eq, ↓pop.eq_1, ↓List.getElem?_map, ↓List.getElem?_cons_zero, ↓List.getElem?_cons_succ, pbuiltin, opnd, constPV, PState.put, fr_set, fr_getD_nil, fr_same, fr_other, layFrom, List.set, pnck, pguard_tt, pguard_tf, pguard_ft, pguard_ff, seqK, blockK, scopeK, List.map_cons, List.map_nil, List.getD_cons_zero, List.getD_cons_succ, List.getD_nil, List.getElem?_nil, Option.join_some, Option.join_none, pbin, pun, ppick, plen, pldop, pload, pfaddr, piaddr, pindex, pfield, pslice, pbound, pconv, pelems, pextract, pmm, parr, pbuild, pfill, PV.mem?, PV.one, PV.cells, pageq, peqs, peq1, palloc, pbox, pbuildS, pmakes, pstore, pappend, pcopy, pbytes, pmark, psrc, vcells, Value.oneCell', look, upd, del, names, Option.map_some, Option.map_none, List.length_cons, List.length_nil, List.all_cons, List.all_nil, Bool.and_true, Bool.true_and, Bool.not_true, Bool.not_false, List.take_zero, List.drop_zero, List.nil_append, List.cons_append, List.append_nil, Nat.reduceAdd, Nat.reduceMul, Nat.reduceSub, Nat.reduceLeDiff, Nat.reduceEqDiff, Nat.zero_add, Nat.add_zero, Nat.mul_one, Nat.zero_mul, List.drop_succ_cons, List.take_succ_cons, List.drop_nil, List.take_nil, ↓reduceIte, ne_eq, true_and, and_true, not_false_eq_true, reduceCtorEq, forall_const, List.toList_toArray, times, List.replicate_succ, List.replicate_zero, List.flatten_cons, List.flatten_nil, Value.cells, Int.toNat_natCast, Int.toNat_zero, Int.toNat_one, bl_mk, bl_lit, wr64, toNat_add1, toNat_sub1, map_getD, Int.natCast_nonneg, List.length_map, Bool.not_not, List.not_mem_nil, Option.some.injEq, exists_and_left, exists_eq_left', Int.cast_ofNat_Int, Int.natCast_zero, eq_self, List.size_toArray, Nat.reduceLT, Int.reduceLT, Int.reduceLE, Int.reduceToNat, Int.reduceAdd, Int.reduceSub, Int.reduceNeg, decide_true, decide_false, List.length_take, List.length_append, List.length_drop, hnm, Tryd.tf0, Tryd.tf3, Tryd.tf5, Tryd.tf9, Tryd.tf22, Tryd.teq24, Tryd.tf27, Tryd.teq30, Tryd.teq31, Tryd.teq43, Tryd.tf44, Tryd.teq44, Tryd.teq48, Tryd.teq54, Tryd.teq63, Tryd.call23, Tryd.call34, hol, hone, htk]); repeat (refine And.intro (by omega) ?_))
    | ((first | with_reducible apply WL_nil | with_reducible apply W_label | with_reducible apply W_skip | with_reducible apply W_exit | with_reducible apply W_ret); try simp only [seqK, blockK, scopeK, ↓reduceIte, Nat.reduceEqDiff])
    | (with_reducible apply W_cond_k; intro _ _ ea eb; (simp only [condK, not_true_eq_false, not_false_eq_true, opnd, constPV, List.getD_cons_zero, List.getD_cons_succ, fr_getD_cons, fr_getD_nil, Nat.reduceEqDiff, Nat.reduceLT, ↓reduceIte, decide_eq_true_eq, decide_eq_false_iff_not, reduceCtorEq, false_implies, true_implies, and_true, true_and, Bool.not_eq_true, Bool.not_eq_false, forall_const, bne_iff_ne, bne_eq_false_iff_eq, beq_iff_eq, beq_eq_false_iff_ne, ne_eq, Decidable.not_not, Bool.not_eq_eq_eq_not, Bool.not_true, Bool.not_false, Bool.and_eq_true, Bool.or_eq_true, Int.natCast_inj, Bool.and_eq_false_iff, Bool.or_eq_false_iff]); subst ea eb; first | (refine ⟨fun hc => ?_, fun hc => ?_⟩ <;> first | (exfalso; omega) | (exfalso; exact hc trivial) | skip) | skip)
    | (with_reducible apply hnx; clear hnx nx)
    | (with_reducible refine And.intro (by omega) ?_)
    | (with_reducible refine And.intro ?_ ?_)
    | (with_reducible refine pcall_k (c1) ?_; rintro _ _ ⟨rfl, rfl⟩ -; refine Ev_in ?_)
    | (with_reducible refine pcall_k (c2) ?_; rintro _ _ ⟨rfl, rfl⟩ -; refine Ev_in ?_)
    | (clear hnx nx; with_reducible apply hnx; clear hnx nx)
    | (clear hnx nx; clear hnx nx; with_reducible apply hnx; clear hnx nx)
    | (clear hnx nx; clear hnx nx; clear hnx nx; with_reducible apply hnx; clear hnx nx))
  refine hfin _ _ (Fin_cell (res := .agg (q.map pbyte)) Tryd.tf44 (n := nm) (off := 0) (o := ⟨44, false, 0, q.map pbyte⟩) (by simp only [fr_getD_cons, Nat.reduceEqDiff, Nat.reduceLT, ↓reduceIte]) (by simp [look, hnm]) ?_ (Sub_nil _) ⟨rfl, rfl⟩)
  simp [pload, hol, htk, hone]
end Go.PM
