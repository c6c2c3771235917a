/- Streams: plainly; the contracts of Begin and Add. Conditions: none but those that each names. -/
import Derived.Test.YtoekafodjjeboaaDoorHf
set_option linter.unusedSimpArgs false
set_option linter.unusedVariables false
namespace Go.PM
open Go.Proofs
attribute [local irreducible] W PCalls pcall pcallI WL

/-- What lies at a place of the block of a stream to which t was added. -/
def qB (t : List UInt8) (i : Nat) : UInt8 := if i < t.length % 64 then t.getD (64 * (t.length / 64) + i) 0 else if 64 ≤ t.length then t.getD (64 * (t.length / 64 - 1) + i) 0 else 0
def qOf (t : List UInt8) : List UInt8 := (List.range 64).map (qB t)
def stS (t : List UInt8) : List UInt32 := blk H0 t (t.length / 64)
/-- The cells of a stream to which t was added. -/
def stC (t : List UInt8) : List PV := (stS t).map pw ++ (qOf t).map pbyte ++ [pint .u64 t.length]
/-- The stream to which t was added. -/
@[reducible] def stP (t : List UInt8) : PV := .agg (stC t)

theorem blk_app (s : List UInt32) (b v : List UInt8) : ∀ k, 64 * k ≤ b.length → blk s (b ++ v) k = blk s b k
  | 0, _ => rfl
  | k + 1, h => by
    have e : ((b ++ v).drop (64 * k)).take 64 = (b.drop (64 * k)).take 64 := by
      rw [List.drop_append_of_le_length (by omega), List.take_append_of_le_length (by rw [List.length_drop]; omega)]
    rw [blk, blk, blk_app s b v k (by omega), e]
theorem stS_len (t : List UInt8) : (stS t).length = 8 := blk_len _ _ H0_len _
theorem qOf_len (t : List UInt8) : (qOf t).length = 64 := by simp [qOf]
theorem qOf_get (t : List UInt8) (i : Nat) (h : i < 64) : (qOf t)[i]? = some (qB t i) := by simp [qOf, h]
theorem getD_left (u v : List UInt8) (i : Nat) (h : i < u.length) : (u ++ v).getD i 0 = u.getD i 0 := by
  rw [List.getD_eq_getElem?_getD, List.getD_eq_getElem?_getD, List.getElem?_append_left h]
theorem getD_right (u v : List UInt8) (i : Nat) (h : u.length ≤ i) : (u ++ v).getD i 0 = v.getD (i - u.length) 0 := by
  rw [List.getD_eq_getElem?_getD, List.getD_eq_getElem?_getD, List.getElem?_append_right h]
theorem qOf_step (u v : List UInt8) (a : Nat) (ha : a = u.length % 64) (h0 : 0 < v.length) (h : a + v.length ≤ 64) : (qOf u).take a ++ v ++ (qOf u).drop (a + v.length) = qOf (u ++ v) := by
  have hl : (u ++ v).length = u.length + v.length := List.length_append
  apply List.ext_getElem?
  intro i
  have ht : ((qOf u).take a).length = a := by rw [List.length_take, qOf_len]; omega
  rcases Nat.lt_or_ge i 64 with hi | hi
  · rw [qOf_get _ _ hi]
    rcases Nat.lt_or_ge i a with h1 | h1
    · rw [List.append_assoc, List.getElem?_append_left (by omega), List.getElem?_take_of_lt h1, qOf_get _ _ hi]
      congr 1
      unfold qB
      rw [if_pos (by omega)]
      rcases Nat.lt_or_ge (a + v.length) 64 with h2 | h2
      · rw [if_pos (by omega), show (u ++ v).length / 64 = u.length / 64 by omega, getD_left _ _ _ (by omega)]
      · rw [if_neg (by omega), if_pos (by omega), show (u ++ v).length / 64 - 1 = u.length / 64 by omega, getD_left _ _ _ (by omega)]
    · rcases Nat.lt_or_ge i (a + v.length) with h2 | h2
      · rw [List.getElem?_append_left (by rw [List.length_append]; omega), List.getElem?_append_right (by omega), ht, List.getElem?_eq_getElem (by omega)]
        congr 1
        have e : ∀ w : Nat, w = u.length / 64 → v[i - a]'(by omega) = (u ++ v).getD (64 * w + i) 0 := by
          intro w hw
          have h3 : 64 * w + i - u.length = i - a := by omega
          rw [getD_right _ _ _ (by omega), h3, List.getD_eq_getElem?_getD, List.getElem?_eq_getElem (by omega)]
          rfl
        unfold qB
        rcases Nat.lt_or_ge (a + v.length) 64 with h3 | h3
        · rw [if_pos (by omega)]
          exact e _ (by omega)
        · rw [if_neg (by omega), if_pos (by omega)]
          exact e _ (by omega)
      · rw [List.getElem?_append_right (by rw [List.length_append]; omega), List.length_append, ht, List.getElem?_drop, show a + v.length + (i - (a + v.length)) = i by omega, qOf_get _ _ hi]
        congr 1
        unfold qB
        by_cases h3 : 64 ≤ u.length
        · rw [if_neg (by omega), if_pos h3, if_neg (by omega), if_pos (by omega), show (u ++ v).length / 64 = u.length / 64 by omega, getD_left _ _ _ (by omega)]
        · rw [if_neg (by omega), if_neg h3, if_neg (by omega), if_neg (by omega)]
  · rw [List.getElem?_eq_none (by simp only [List.length_append, List.length_drop, ht, qOf_len]; omega), List.getElem?_eq_none (by rw [qOf_len]; exact hi)]
theorem stS_keep (u v : List UInt8) (h : u.length % 64 + v.length < 64) : stS (u ++ v) = stS u := by
  unfold stS
  rw [show (u ++ v).length / 64 = u.length / 64 by rw [List.length_append]; omega, blk_app _ _ _ _ (by omega)]
theorem stS_step (u v : List UInt8) (h0 : 0 < v.length) (h : u.length % 64 + v.length = 64) : stS (u ++ v) = comp (stS u) (qOf (u ++ v)) := by
  have hl : (u ++ v).length = u.length + v.length := List.length_append
  unfold stS
  rw [show (u ++ v).length / 64 = u.length / 64 + 1 by omega, blk, blk_app _ _ _ _ (by omega)]
  congr 1
  apply List.ext_getElem?
  intro i
  rcases Nat.lt_or_ge i 64 with hi | hi
  · rw [qOf_get _ _ hi, List.getElem?_take_of_lt hi, List.getElem?_drop, List.getElem?_eq_getElem (by omega)]
    unfold qB
    rw [if_neg (by omega), if_pos (by omega), show (u ++ v).length / 64 - 1 = u.length / 64 by omega, List.getD_eq_getElem?_getD, List.getElem?_eq_getElem (by omega)]
    rfl
  · rw [List.getElem?_eq_none (by rw [List.length_take]; omega), List.getElem?_eq_none (by rw [qOf_len]; exact hi)]

theorem elemsOf_one {cs : List PV} {n : Nat} (h : n ≤ cs.length) : elemsOf 1 cs n = cs.take n := by
  rw [elemsOf, if_pos rfl]
theorem elemsOf_bytes {q : List UInt8} {n : Nat} (hq : q.length = n) (rest : List PV) : elemsOf 1 (q.map pbyte ++ rest) n = q.map pbyte := by
  rw [elemsOf_one (by simp [hq]), List.take_append_of_le_length (by simp [hq]), List.take_of_length_le (by simp [hq])]

/-- Cells of a stream. -/
def st3 (S : List UInt32) (Q : List UInt8) (n : Nat) : List PV := S.map pw ++ Q.map pbyte ++ [pint .u64 n]
theorem stC_st3 (t : List UInt8) : stC t = st3 (stS t) (qOf t) t.length := rfl
section
variable {S S' : List UInt32} {Q : List UInt8} {n n' : Nat} (hS : S.length = 8) (hQ : Q.length = 64)
theorem st3_len (hS : S.length = 8) (hQ : Q.length = 64) : (st3 S Q n).length = 73 := by simp [st3, hS, hQ]
theorem st3_n (hS : S.length = 8) (hQ : Q.length = 64) : (st3 S Q n)[72]? = some (pint .u64 n) := by
  rw [st3, List.getElem?_append_right (by simp [hS, hQ])]
  simp [hS, hQ]
theorem st3_copy (hS : S.length = 8) (hQ : Q.length = 64) (v : List UInt8) (a : Nat) (h : a + v.length ≤ 64) : List.take (8 + a) (st3 S Q n) ++ v.map pbyte ++ List.drop (8 + a + v.length) (st3 S Q n) = st3 S (Q.take a ++ v ++ Q.drop (a + v.length)) n := by
  have e1 : List.take (8 + a) (st3 S Q n) = S.map pw ++ (Q.take a).map pbyte := by
    rw [st3, List.append_assoc, List.take_append, List.length_map, hS, List.take_of_length_le (by rw [List.length_map]; omega), show 8 + a - 8 = a by omega, List.take_append_of_le_length (by rw [List.length_map]; omega), List.map_take]
  have e2 : List.drop (8 + a + v.length) (st3 S Q n) = (Q.drop (a + v.length)).map pbyte ++ [pint .u64 n] := by
    rw [st3, List.append_assoc, List.drop_append, List.length_map, hS, List.drop_of_length_le (by rw [List.length_map]; omega), List.nil_append, show 8 + a + v.length - 8 = a + v.length by omega, List.drop_append_of_le_length (by rw [List.length_map]; omega), List.map_drop]
  rw [e1, e2, st3]
  simp only [List.map_append, List.append_assoc]
theorem st3_setn (hS : S.length = 8) (hQ : Q.length = 64) : List.take 72 (st3 S Q n) ++ [pint .u64 n'] ++ List.drop 73 (st3 S Q n) = st3 S Q n' := by
  rw [List.drop_of_length_le (by rw [st3_len hS hQ]; omega), List.append_nil, st3, List.take_append_of_le_length (by simp [hS, hQ]), List.take_of_length_le (by simp [hS, hQ]), st3]
theorem st3_state (hS : S.length = 8) : List.take 8 (st3 S Q n) = S.map pw := by
  rw [st3, List.append_assoc, List.take_append_of_le_length (by simp [hS]), List.take_of_length_le (by simp [hS])]
theorem st3_sets (hS : S.length = 8) : S'.map pw ++ List.drop 8 (st3 S Q n) = st3 S' Q n := by
  rw [st3, List.append_assoc, List.drop_append_of_le_length (by simp [hS]), List.drop_of_length_le (by simp [hS]), List.nil_append, st3, List.append_assoc]
theorem st3_drop (hS : S.length = 8) : List.drop 8 (st3 S Q n) = Q.map pbyte ++ [pint .u64 n] := by
  rw [st3, List.append_assoc, List.drop_append_of_le_length (by simp [hS]), List.drop_of_length_le (by simp [hS]), List.nil_append]
theorem st3_one : (st3 S Q n).all PV.one = true := by
  rw [st3, List.all_append, List.all_append, all_one_pw, all_one_byte]
  rfl
end
attribute [irreducible] st3

set_option maxRecDepth 100000 in
theorem begin_c (G : Globs) : PCalls Tryd.prog G 14 [] [] (fun res H => res = stP [] ∧ H = []) := by
  (refine PCalls_f Tryd.func14 rfl Tryd.ntmps14 Tryd.results14 (by simp) fun fin hfin => ?_; have hnm : True := trivial; simp (maxSteps := 2000000) (disch := omega) only [↓popG_eq, ↓pop.eq_1, ↓List.getElem?_map, ↓List.getElem?_cons_zero, ↓List.getElem?_cons_succ, pbuiltin, opnd, constPV, PState.put, fr_set, fr_getD_nil, fr_same, fr_other, layFrom, List.set, pnck, pguard_tt, pguard_tf, pguard_ft, pguard_ff, seqK, blockK, scopeK, List.map_cons, List.map_nil, List.getD_cons_zero, List.getD_cons_succ, List.getD_nil, List.getElem?_nil, Option.join_some, Option.join_none, pbin, pun, ppick, plen, pldop, pload, pfaddr, piaddr, pindex, pfield, pslice, pbound, pconv, pelems, pextract, pmm, parr, pbuild, pfill, PV.mem?, PV.one, PV.cells, pageq, peqs, peq1, palloc, pbox, pbuildS, pmakes, pstore, pappend, pcopy, pbytes, pmark, psrc, vcells, Value.oneCell', look, upd, del, names, Option.map_some, Option.map_none, List.length_cons, List.length_nil, List.all_cons, List.all_nil, Bool.and_true, Bool.true_and, Bool.not_true, Bool.not_false, List.take_zero, List.drop_zero, List.nil_append, List.cons_append, List.append_nil, Nat.reduceAdd, Nat.reduceMul, Nat.reduceSub, Nat.reduceLeDiff, Nat.reduceEqDiff, Nat.zero_add, Nat.add_zero, Nat.mul_one, Nat.zero_mul, List.drop_succ_cons, List.take_succ_cons, List.drop_nil, List.take_nil, ↓reduceIte, ne_eq, true_and, and_true, not_false_eq_true, reduceCtorEq, forall_const, List.toList_toArray, times, List.replicate_succ, List.replicate_zero, List.flatten_cons, List.flatten_nil, Value.cells, Int.toNat_natCast, Int.toNat_zero, Int.toNat_one, bl_mk, bl_lit, wr64, toNat_add1, toNat_sub1, map_getD, Int.natCast_nonneg, List.length_map, Bool.not_not, List.not_mem_nil, Option.some.injEq, exists_and_left, exists_eq_left', Int.cast_ofNat_Int, Int.natCast_zero, eq_self, List.size_toArray, Nat.reduceLT, Int.reduceLT, Int.reduceLE, Int.reduceToNat, Int.reduceAdd, Int.reduceSub, Int.reduceNeg, decide_true, decide_false, List.length_take, List.length_append, List.length_drop, hnm, Tryd.tf0, Tryd.teq24, Tryd.tf29, Tryd.tf30, Tryd.teq30, Tryd.teq31, Tryd.tf34, Tryd.teq43, Tryd.teq44, Tryd.teq48, Tryd.teq54, Tryd.teq63])
  repeat' (first
    | (with_reducible apply W_seq_k; intro nx hnx)
    | with_reducible apply W_block
    | with_reducible apply W_scope
    | (with_reducible refine W_prune 1 ?_; simp only [prune_cons, prune_nil, Nat.reducePow, Nat.reduceDiv, Nat.reduceMod, Nat.reduceBEq, cond_true, cond_false]; with_reducible apply W_region_l)
    | ((first | (with_reducible apply WL_op; intro nx hnx) | with_reducible refine Ev_out ?_ | (with_reducible refine pfresh_k hnm fun nm hnm => ?_; (try simp only [List.forall_mem_cons, List.not_mem_nil, false_implies, implies_true, and_true, true_and, ne_eq] at hnm))); try (simp (maxSteps := 2000000) (disch := omega) only [↓popG_eq, ↓pop.eq_1, ↓List.getElem?_map, ↓List.getElem?_cons_zero, ↓List.getElem?_cons_succ, pbuiltin, opnd, constPV, PState.put, fr_set, fr_getD_nil, fr_same, fr_other, layFrom, List.set, pnck, pguard_tt, pguard_tf, pguard_ft, pguard_ff, seqK, blockK, scopeK, List.map_cons, List.map_nil, List.getD_cons_zero, List.getD_cons_succ, List.getD_nil, List.getElem?_nil, Option.join_some, Option.join_none, pbin, pun, ppick, plen, pldop, pload, pfaddr, piaddr, pindex, pfield, pslice, pbound, pconv, pelems, pextract, pmm, parr, pbuild, pfill, PV.mem?, PV.one, PV.cells, pageq, peqs, peq1, palloc, pbox, pbuildS, pmakes, pstore, pappend, pcopy, pbytes, pmark, psrc, vcells, Value.oneCell', look, upd, del, names, Option.map_some, Option.map_none, List.length_cons, List.length_nil, List.all_cons, List.all_nil, Bool.and_true, Bool.true_and, Bool.not_true, Bool.not_false, List.take_zero, List.drop_zero, List.nil_append, List.cons_append, List.append_nil, Nat.reduceAdd, Nat.reduceMul, Nat.reduceSub, Nat.reduceLeDiff, Nat.reduceEqDiff, Nat.zero_add, Nat.add_zero, Nat.mul_one, Nat.zero_mul, List.drop_succ_cons, List.take_succ_cons, List.drop_nil, List.take_nil, ↓reduceIte, ne_eq, true_and, and_true, not_false_eq_true, reduceCtorEq, forall_const, List.toList_toArray, times, List.replicate_succ, List.replicate_zero, List.flatten_cons, List.flatten_nil, Value.cells, Int.toNat_natCast, Int.toNat_zero, Int.toNat_one, bl_mk, bl_lit, wr64, toNat_add1, toNat_sub1, map_getD, Int.natCast_nonneg, List.length_map, Bool.not_not, List.not_mem_nil, Option.some.injEq, exists_and_left, exists_eq_left', Int.cast_ofNat_Int, Int.natCast_zero, eq_self, List.size_toArray, Nat.reduceLT, Int.reduceLT, Int.reduceLE, Int.reduceToNat, Int.reduceAdd, Int.reduceSub, Int.reduceNeg, decide_true, decide_false, List.length_take, List.length_append, List.length_drop, hnm, Tryd.tf0, Tryd.teq24, Tryd.tf29, Tryd.tf30, Tryd.teq30, Tryd.teq31, Tryd.tf34, Tryd.teq43, Tryd.teq44, Tryd.teq48, Tryd.teq54, Tryd.teq63]); repeat (refine And.intro (by omega) ?_))
    | ((first | with_reducible apply WL_nil | with_reducible apply W_label | with_reducible apply W_skip | with_reducible apply W_exit | with_reducible apply W_ret); try simp only [seqK, blockK, scopeK, ↓reduceIte, Nat.reduceEqDiff])
    | (with_reducible apply W_cond_k; intro _ _ ea eb; (simp only [condK, not_true_eq_false, not_false_eq_true, opnd, constPV, List.getD_cons_zero, List.getD_cons_succ, fr_getD_cons, fr_getD_nil, Nat.reduceEqDiff, Nat.reduceLT, ↓reduceIte, decide_eq_true_eq, decide_eq_false_iff_not, reduceCtorEq, false_implies, true_implies, and_true, true_and, Bool.not_eq_true, Bool.not_eq_false, forall_const, bne_iff_ne, bne_eq_false_iff_eq, beq_iff_eq, beq_eq_false_iff_ne, ne_eq, Decidable.not_not, Bool.not_eq_eq_eq_not, Bool.not_true, Bool.not_false, Bool.and_eq_true, Bool.or_eq_true, Int.natCast_inj, Bool.and_eq_false_iff, Bool.or_eq_false_iff]); subst ea eb; first | (refine ⟨fun hc => ?_, fun hc => ?_⟩ <;> first | (exfalso; omega) | (exfalso; exact hc trivial) | skip) | skip)
    | (with_reducible apply hnx; clear hnx nx)
    | (with_reducible refine And.intro (by omega) ?_)
    | (with_reducible refine And.intro ?_ ?_)
    | (clear hnx nx; with_reducible apply hnx; clear hnx nx)
    | (clear hnx nx; clear hnx nx; with_reducible apply hnx; clear hnx nx)
    | (clear hnx nx; clear hnx nx; clear hnx nx; with_reducible apply hnx; clear hnx nx))
  refine hfin _ _ (Fin_cell (res := stP []) Tryd.tf34 (n := nm) (off := 0) (o := ⟨34, false, 0, stC []⟩) (by simp only [fr_getD_cons, Nat.reduceEqDiff, Nat.reduceLT, ↓reduceIte]) (by simp only [look, ↓reduceIte]; rfl) ?_ (Sub_nil _) ⟨rfl, rfl⟩)
  have h1 := st3_len (n := ([] : List UInt8).length) (stS_len []) (qOf_len [])
  have h2 := st3_one (S := stS []) (Q := qOf []) (n := ([] : List UInt8).length)
  rw [stC_st3]
  simp only [pload, h1, h2]
  rw [if_pos trivial]
  refine ⟨by omega, ?_⟩
  rw [List.drop_zero, List.take_of_length_le (by omega)]
  exact congrArg PV.agg (stC_st3 [])
set_option maxRecDepth 100000 in
set_option maxHeartbeats 8000000 in
theorem add_c (G : Globs) (hG : G 1 = .iptr (KS.map pw) 0) (t x : List UInt8) (hb : t.length + x.length ≤ 4294967296) : PCalls Tryd.prog G 15 [stP t, pstr x] [] (fun res H => res = stP (t ++ x) ∧ H = []) := by
  have hst := st3_len (n := t.length) (stS_len t) (qOf_len t)
  have hone := st3_one (S := stS t) (Q := qOf t) (n := t.length)
  unfold stP
  rw [stC_st3 t]
  obtain ⟨zs, hzs⟩ : ∃ zs, zs = List.replicate 8 (pint .u32 0) ++ List.replicate 64 (pint .u8 0) ++ [pint .u64 0] := ⟨_, rfl⟩
  have hzl : zs.length = 73 := by rw [hzs]; rfl
  (refine PCalls_f Tryd.func15 rfl Tryd.ntmps15 Tryd.results15 (by simp) fun fin hfin => ?_; have hnm : True := trivial; simp (maxSteps := 2000000) (disch := omega) only [↓popG_eq, ↓pop.eq_1, ↓List.getElem?_map, ↓List.getElem?_cons_zero, ↓List.getElem?_cons_succ, pbuiltin, opnd, constPV, PState.put, fr_set, fr_getD_nil, fr_same, fr_other, layFrom, List.set, pnck, pguard_tt, pguard_tf, pguard_ft, pguard_ff, seqK, blockK, scopeK, List.map_cons, List.map_nil, List.getD_cons_zero, List.getD_cons_succ, List.getD_nil, List.getElem?_nil, Option.join_some, Option.join_none, pbin, pun, ppick, plen, pldop, pload, pfaddr, piaddr, pindex, pfield, pslice, pbound, pconv, pelems, pextract, pmm, parr, pbuild, pfill, PV.mem?, PV.one, PV.cells, pageq, peqs, peq1, palloc, pbox, pbuildS, pmakes, pstore, pappend, pcopy, pbytes, pmark, psrc, vcells, Value.oneCell', look, upd, del, names, Option.map_some, Option.map_none, List.length_cons, List.length_nil, List.all_cons, List.all_nil, Bool.and_true, Bool.true_and, Bool.not_true, Bool.not_false, List.take_zero, List.drop_zero, List.nil_append, List.cons_append, List.append_nil, Nat.reduceAdd, Nat.reduceMul, Nat.reduceSub, Nat.reduceLeDiff, Nat.reduceEqDiff, Nat.zero_add, Nat.add_zero, Nat.mul_one, Nat.zero_mul, List.drop_succ_cons, List.take_succ_cons, List.drop_nil, List.take_nil, ↓reduceIte, ne_eq, true_and, and_true, not_false_eq_true, reduceCtorEq, forall_const, List.toList_toArray, times, List.replicate_succ, List.replicate_zero, List.flatten_cons, List.flatten_nil, Value.cells, Int.toNat_natCast, Int.toNat_zero, Int.toNat_one, bl_mk, bl_lit, wr64, toNat_add1, toNat_sub1, map_getD, Int.natCast_nonneg, List.length_map, Bool.not_not, List.not_mem_nil, Option.some.injEq, exists_and_left, exists_eq_left', Int.cast_ofNat_Int, Int.natCast_zero, eq_self, List.size_toArray, Nat.reduceLT, Int.reduceLT, Int.reduceLE, Int.reduceToNat, Int.reduceAdd, Int.reduceSub, Int.reduceNeg, decide_true, decide_false, List.length_take, List.length_append, List.length_drop, hnm, Tryd.tf0, Tryd.tf1, Tryd.tf2, Tryd.tf3, Tryd.tf4, Tryd.tf5, Tryd.tf9, Tryd.tf22, Tryd.teq24, Tryd.tf29, Tryd.tf30, Tryd.teq30, Tryd.tf31, Tryd.teq31, Tryd.tf32, Tryd.tf34, Tryd.teq43, Tryd.teq44, Tryd.teq48, Tryd.teq54, Tryd.teq63, Tryd.call30])
  repeat' (first
    | (with_reducible apply W_seq_k; intro nx hnx)
    | with_reducible apply W_block
    | with_reducible apply W_scope
    | (with_reducible refine W_prune 119 ?_; simp only [prune_cons, prune_nil, Nat.reducePow, Nat.reduceDiv, Nat.reduceMod, Nat.reduceBEq, cond_true, cond_false]; with_reducible apply W_region_l)
    | (with_reducible refine W_prune 119 ?_; simp only [prune_cons, prune_nil, Nat.reducePow, Nat.reduceDiv, Nat.reduceMod, Nat.reduceBEq, cond_true, cond_false]; with_reducible refine W_region_draw (id := 7) 1 (.op 0 true (.op 1 true (.op 2 true (.op 3 true (.op 4 true (.op 5 true (.op 6 false (.done)))))))) (by kernel_rfl) ?_)
    | ((first | (with_reducible apply WL_op; intro nx hnx) | with_reducible refine Ev_out ?_ | (with_reducible apply popsD_op; intro nx hnx) | (with_reducible refine popsD_alt ?_ ?_; intro nx hnx) | (with_reducible refine pfresh_k hnm fun nm hnm => ?_; (try simp only [List.forall_mem_cons, List.not_mem_nil, false_implies, implies_true, and_true, true_and, ne_eq] at hnm))); try (simp (maxSteps := 2000000) (disch := omega) only [↓popG_eq, ↓pop.eq_1, ↓List.getElem?_map, ↓List.getElem?_cons_zero, ↓List.getElem?_cons_succ, pbuiltin, opnd, constPV, PState.put, fr_set, fr_getD_nil, fr_same, fr_other, layFrom, List.set, pnck, pguard_tt, pguard_tf, pguard_ft, pguard_ff, seqK, blockK, scopeK, List.map_cons, List.map_nil, List.getD_cons_zero, List.getD_cons_succ, List.getD_nil, List.getElem?_nil, Option.join_some, Option.join_none, pbin, pun, ppick, plen, pldop, pload, pfaddr, piaddr, pindex, pfield, pslice, pbound, pconv, pelems, pextract, pmm, parr, pbuild, pfill, PV.mem?, PV.one, PV.cells, pageq, peqs, peq1, palloc, pbox, pbuildS, pmakes, pstore, pappend, pcopy, pbytes, pmark, psrc, vcells, Value.oneCell', look, upd, del, names, Option.map_some, Option.map_none, List.length_cons, List.length_nil, List.all_cons, List.all_nil, Bool.and_true, Bool.true_and, Bool.not_true, Bool.not_false, List.take_zero, List.drop_zero, List.nil_append, List.cons_append, List.append_nil, Nat.reduceAdd, Nat.reduceMul, Nat.reduceSub, Nat.reduceLeDiff, Nat.reduceEqDiff, Nat.zero_add, Nat.add_zero, Nat.mul_one, Nat.zero_mul, List.drop_succ_cons, List.take_succ_cons, List.drop_nil, List.take_nil, ↓reduceIte, ne_eq, true_and, and_true, not_false_eq_true, reduceCtorEq, forall_const, List.toList_toArray, times, List.replicate_succ, List.replicate_zero, List.flatten_cons, List.flatten_nil, Value.cells, Int.toNat_natCast, Int.toNat_zero, Int.toNat_one, bl_mk, bl_lit, wr64, toNat_add1, toNat_sub1, map_getD, Int.natCast_nonneg, List.length_map, Bool.not_not, List.not_mem_nil, Option.some.injEq, exists_and_left, exists_eq_left', Int.cast_ofNat_Int, Int.natCast_zero, eq_self, List.size_toArray, Nat.reduceLT, Int.reduceLT, Int.reduceLE, Int.reduceToNat, Int.reduceAdd, Int.reduceSub, Int.reduceNeg, decide_true, decide_false, List.length_take, List.length_append, List.length_drop, hnm, Tryd.tf0, Tryd.tf1, Tryd.tf2, Tryd.tf3, Tryd.tf4, Tryd.tf5, Tryd.tf9, Tryd.tf22, Tryd.teq24, Tryd.tf29, Tryd.tf30, Tryd.teq30, Tryd.tf31, Tryd.teq31, Tryd.tf32, Tryd.tf34, Tryd.teq43, Tryd.teq44, Tryd.teq48, Tryd.teq54, Tryd.teq63, Tryd.call30, hst, hone]); repeat (refine And.intro (by omega) ?_))
    | ((first | with_reducible apply WL_nil | with_reducible apply W_label | with_reducible apply W_skip | with_reducible apply W_exit | with_reducible apply W_ret | with_reducible apply popsD_done); try simp only [seqK, blockK, scopeK, ↓reduceIte, Nat.reduceEqDiff])
    | with_reducible exact popsD_stop
    | (with_reducible apply W_cond_k; intro _ _ ea eb; (simp only [condK, not_true_eq_false, not_false_eq_true, opnd, constPV, List.getD_cons_zero, List.getD_cons_succ, fr_getD_cons, fr_getD_nil, Nat.reduceEqDiff, Nat.reduceLT, ↓reduceIte, decide_eq_true_eq, decide_eq_false_iff_not, reduceCtorEq, false_implies, true_implies, and_true, true_and, Bool.not_eq_true, Bool.not_eq_false, forall_const, bne_iff_ne, bne_eq_false_iff_eq, beq_iff_eq, beq_eq_false_iff_ne, ne_eq, Decidable.not_not, Bool.not_eq_eq_eq_not, Bool.not_true, Bool.not_false, Bool.and_eq_true, Bool.or_eq_true, Int.natCast_inj, Bool.and_eq_false_iff, Bool.or_eq_false_iff]); subst ea eb; first | (refine ⟨fun hc => ?_, fun hc => ?_⟩ <;> first | (exfalso; omega) | (exfalso; exact hc trivial) | skip) | skip)
    | (with_reducible apply hnx; clear hnx nx)
    | (with_reducible refine And.intro (by omega) ?_)
    | (with_reducible refine And.intro ?_ ?_)
    | (clear hnx nx; with_reducible apply hnx; clear hnx nx)
    | (clear hnx nx; clear hnx nx; with_reducible apply hnx; clear hnx nx)
    | (clear hnx nx; clear hnx nx; clear hnx nx; with_reducible apply hnx; clear hnx nx))
  rename_i N2 _
  obtain ⟨N4, hN4'⟩ : ∃ N, N = nm := ⟨_, rfl⟩
  subst hN4'
  have hN : N4 ≠ N2 := by simp only [ne_eq, hnm, not_false_eq_true]
  have hN1 : ¬ N4 = N2 := hN
  have hN3 : ¬ N2 = N4 := fun e => hN e.symm
  clear hnm
  have hnm : True := trivial
  have hnd : [N4, N2].Nodup := by simp [hN1]
  refine W_loop_k (fun z τ => ∃ j : Nat, j ≤ x.length ∧ z = x.length - j ∧ τ = ⟨fr 38 [(4, .ptr N4 0), (2, .ptr N2 0), (1, pstr (x.drop j))], [(N4, ⟨34, false, 0, zs⟩), (N2, ⟨34, false, 0, st3 (stS (t ++ x.take j)) (qOf (t ++ x.take j)) (t ++ x.take j).length⟩)]⟩) x.length
    ⟨fr 38 [(4, .ptr N4 0), (2, .ptr N2 0), (1, pstr x)], [(N4, ⟨34, false, 0, zs⟩), (N2, ⟨34, false, 0, st3 (stS t) (qOf t) t.length⟩)]⟩ (by
    rw [hzs]
    refine Wk_fr (by simp only [List.forall_mem_cons, List.not_mem_nil, false_implies, implies_true, and_true, true_and, and_self, fr_getD_cons, fr_getD_nil, Nat.reduceEqDiff, Nat.reduceLT, ↓reduceIte, Int.natCast_add, Int.cast_ofNat_Int, Int.natCast_zero]) ?_
    exact ⟨by simp [List.replicate_succ], by simpa [names] using hN1⟩) ⟨0, by omega, by omega, by simp⟩ ?_
  rintro z τ ⟨j, hj, rfl, rfl⟩ lp hlp
  obtain ⟨r, hr⟩ : ∃ r, r = x.drop j := ⟨_, rfl⟩
  have hrl : r.length = x.length - j := by rw [hr, List.length_drop]
  obtain ⟨u, hu⟩ : ∃ u, u = t ++ x.take j := ⟨_, rfl⟩
  have hul : u.length = t.length + j := by rw [hu, List.length_append, List.length_take]; omega
  rw [← hr, ← hu]
  have hS := stS_len u
  have hQ := qOf_len u
  have hl3 := st3_len (n := u.length) hS hQ
  have hg3 := st3_n (n := u.length) hS hQ
  by_cases hre : r = []
  · have hjx : t ++ x = u := by
      rw [hu, List.take_of_length_le (by rw [hre] at hrl; simp only [List.length_nil] at hrl; omega)]
    have htz : List.drop 73 zs = [] := List.drop_of_length_le (by omega)
    have htu : List.take 73 (st3 (stS u) (qOf u) u.length) = st3 (stS u) (qOf u) u.length := List.take_of_length_le (by omega)
    have h1u := st3_one (S := stS u) (Q := qOf u) (n := u.length)
    repeat' (first
    | (with_reducible apply W_seq_k; intro nx hnx)
    | with_reducible apply W_block
    | with_reducible apply W_scope
    | (with_reducible refine W_prune 119 ?_; simp only [prune_cons, prune_nil, Nat.reducePow, Nat.reduceDiv, Nat.reduceMod, Nat.reduceBEq, cond_true, cond_false]; with_reducible apply W_region_l)
    | (with_reducible refine W_prune 119 ?_; simp only [prune_cons, prune_nil, Nat.reducePow, Nat.reduceDiv, Nat.reduceMod, Nat.reduceBEq, cond_true, cond_false]; with_reducible refine W_region_draw (id := 7) 1 (.op 0 true (.op 1 true (.op 2 true (.op 3 true (.op 4 true (.op 5 true (.op 6 false (.done)))))))) (by kernel_rfl) ?_)
    | ((first | (with_reducible apply WL_op; intro nx hnx) | with_reducible refine Ev_out ?_ | (with_reducible apply popsD_op; intro nx hnx) | (with_reducible refine popsD_alt ?_ ?_; intro nx hnx) | (with_reducible refine pfresh_k hnm fun nm hnm => ?_; (try simp only [List.forall_mem_cons, List.not_mem_nil, false_implies, implies_true, and_true, true_and, ne_eq] at hnm))); try (simp (maxSteps := 2000000) (disch := omega) only [↓popG_eq, ↓pop.eq_1, ↓List.getElem?_map, ↓List.getElem?_cons_zero, ↓List.getElem?_cons_succ, pbuiltin, opnd, constPV, PState.put, fr_set, fr_getD_nil, fr_same, fr_other, layFrom, List.set, pnck, pguard_tt, pguard_tf, pguard_ft, pguard_ff, seqK, blockK, scopeK, List.map_cons, List.map_nil, List.getD_cons_zero, List.getD_cons_succ, List.getD_nil, List.getElem?_nil, Option.join_some, Option.join_none, pbin, pun, ppick, plen, pldop, pload, pfaddr, piaddr, pindex, pfield, pslice, pbound, pconv, pelems, pextract, pmm, parr, pbuild, pfill, PV.mem?, PV.one, PV.cells, pageq, peqs, peq1, palloc, pbox, pbuildS, pmakes, pstore, pappend, pcopy, pbytes, pmark, psrc, vcells, Value.oneCell', look, upd, del, names, Option.map_some, Option.map_none, List.length_cons, List.length_nil, List.all_cons, List.all_nil, Bool.and_true, Bool.true_and, Bool.not_true, Bool.not_false, List.take_zero, List.drop_zero, List.nil_append, List.cons_append, List.append_nil, Nat.reduceAdd, Nat.reduceMul, Nat.reduceSub, Nat.reduceLeDiff, Nat.reduceEqDiff, Nat.zero_add, Nat.add_zero, Nat.mul_one, Nat.zero_mul, List.drop_succ_cons, List.take_succ_cons, List.drop_nil, List.take_nil, ↓reduceIte, ne_eq, true_and, and_true, not_false_eq_true, reduceCtorEq, forall_const, List.toList_toArray, times, List.replicate_succ, List.replicate_zero, List.flatten_cons, List.flatten_nil, Value.cells, Int.toNat_natCast, Int.toNat_zero, Int.toNat_one, bl_mk, bl_lit, wr64, toNat_add1, toNat_sub1, map_getD, Int.natCast_nonneg, List.length_map, Bool.not_not, List.not_mem_nil, Option.some.injEq, exists_and_left, exists_eq_left', Int.cast_ofNat_Int, Int.natCast_zero, eq_self, List.size_toArray, Nat.reduceLT, Int.reduceLT, Int.reduceLE, Int.reduceToNat, Int.reduceAdd, Int.reduceSub, Int.reduceNeg, decide_true, decide_false, List.length_take, List.length_append, List.length_drop, hnm, Tryd.tf0, Tryd.tf1, Tryd.tf2, Tryd.tf3, Tryd.tf4, Tryd.tf5, Tryd.tf9, Tryd.tf22, Tryd.teq24, Tryd.tf29, Tryd.tf30, Tryd.teq30, Tryd.tf31, Tryd.teq31, Tryd.tf32, Tryd.tf34, Tryd.teq43, Tryd.teq44, Tryd.teq48, Tryd.teq54, Tryd.teq63, Tryd.call30, hN1, hN3, hl3, hg3, hzl, htz, htu, h1u]); repeat (refine And.intro (by omega) ?_))
    | ((first | with_reducible apply WL_nil | with_reducible apply W_label | with_reducible apply W_skip | with_reducible apply W_exit | with_reducible apply W_ret | with_reducible apply popsD_done); try simp only [seqK, blockK, scopeK, ↓reduceIte, Nat.reduceEqDiff])
    | with_reducible exact popsD_stop
    | (with_reducible apply W_cond_k; intro _ _ ea eb; (simp only [condK, not_true_eq_false, not_false_eq_true, opnd, constPV, List.getD_cons_zero, List.getD_cons_succ, fr_getD_cons, fr_getD_nil, Nat.reduceEqDiff, Nat.reduceLT, ↓reduceIte, decide_eq_true_eq, decide_eq_false_iff_not, reduceCtorEq, false_implies, true_implies, and_true, true_and, Bool.not_eq_true, Bool.not_eq_false, forall_const, bne_iff_ne, bne_eq_false_iff_eq, beq_iff_eq, beq_eq_false_iff_ne, ne_eq, Decidable.not_not, Bool.not_eq_eq_eq_not, Bool.not_true, Bool.not_false, Bool.and_eq_true, Bool.or_eq_true, Int.natCast_inj, Bool.and_eq_false_iff, Bool.or_eq_false_iff]); subst ea eb; first | (refine ⟨fun hc => ?_, fun hc => ?_⟩ <;> first | (exfalso; omega) | (exfalso; exact hc trivial) | skip) | skip)
    | (with_reducible apply hnx; clear hnx nx)
    | (with_reducible refine And.intro (by omega) ?_)
    | (with_reducible refine And.intro ?_ ?_)
    | (clear hnx nx; with_reducible apply hnx; clear hnx nx)
    | (clear hnx nx; clear hnx nx; with_reducible apply hnx; clear hnx nx)
    | (clear hnx nx; clear hnx nx; clear hnx nx; with_reducible apply hnx; clear hnx nx))
    all_goals first
      | exact absurd hre ‹¬ r = []›
      | (exfalso
         omega)
      | skip
    refine hfin _ _ (Fin_cell (res := stP u) Tryd.tf34 (n := N4) (off := 0) (o := ⟨34, false, 0, stC u⟩) (by simp only [fr_getD_cons, Nat.reduceEqDiff, Nat.reduceLT, ↓reduceIte]) (by rw [stC_st3]; simp [look, hN1]) ?_ (Sub_nil _) ⟨by rw [hjx], rfl⟩)
    rw [stC_st3]
    simp only [pload, hl3, h1u]
    rw [if_pos trivial]
    refine ⟨by omega, ?_⟩
    rw [List.drop_zero, htu]
    exact congrArg PV.agg (stC_st3 u)
  · have hr0 : 0 < r.length := List.length_pos_iff.2 hre
    have tm : (u.length : Int).tmod 64 = ((u.length % 64 : Nat) : Int) := by rw [Int.tmod_eq_emod_of_nonneg (by omega)]; omega
    obtain ⟨a, ha⟩ : ∃ a, a = u.length % 64 := ⟨_, rfl⟩
    rw [← ha] at tm
    have ha64 : (64 - (a : Int)).toNat = 64 - a := by omega
    obtain ⟨k, hk⟩ : ∃ k, min r.length (64 - a) = k := ⟨_, rfl⟩
    have htr : List.take r.length r = r := List.take_length
    obtain ⟨v, hv⟩ : ∃ v, v = r.take k := ⟨_, rfl⟩
    have hvl : v.length = k := by rw [hv, List.length_take]; omega
    have hvb : List.take k (bytes r) = v.map pbyte := by
      rw [hv, List.map_take]
      rfl
    have hcp := st3_copy (n := u.length) hS hQ v a (by omega)
    rw [qOf_step u v a ha (by omega) (by omega), hvl] at hcp
    have huv : (u ++ v).length = u.length + k := by rw [List.length_append, hvl]
    have htk : u ++ v = t ++ x.take (j + k) := by
      rw [hu, hv, hr, List.append_assoc, ← List.take_add]
    have hkeep : ¬ a + k = 64 → stS (u ++ v) = stS u := fun h => stS_keep u v (by omega)
    have hstep : a + k = 64 → stS (u ++ v) = comp (stS u) (qOf (u ++ v)) := fun h => stS_step u v (by omega) (by omega)
    obtain ⟨y, hy⟩ : ∃ y, y = u ++ v := ⟨_, rfl⟩
    rw [← hy] at hcp huv htk hkeep hstep
    have hQ2 := qOf_len y
    have hg4 := st3_n (n := u.length) hS hQ2
    have hl4 := st3_len (n := u.length) hS hQ2
    have hwk : IntKind.u64.wrap (k : Int) = (k : Int) := wrn64 k (by omega)
    have hwn : IntKind.u64.wrap ((u.length : Int) + (k : Int)) = ((y.length : Nat) : Int) := by
      rw [huv, show (u.length : Int) + (k : Int) = ((u.length + k : Nat) : Int) by omega]
      exact wrn64 _ (by omega)
    have hsn := st3_setn (n := u.length) (n' := y.length) hS hQ2
    have hxd : r.drop k = x.drop (j + k) := by rw [hr, List.drop_drop]
    by_cases hf : a + k = 64
    · have hl5 := st3_len (n := y.length) hS hQ2
      have hcm := compress_c G hG (stS u) hS (qOf y) hQ2
      have hst5 := st3_state (S := stS u) (Q := qOf y) (n := y.length) hS
      repeat' (first
    | (with_reducible apply W_seq_k; intro nx hnx)
    | with_reducible apply W_block
    | with_reducible apply W_scope
    | (with_reducible refine W_prune 119 ?_; simp only [prune_cons, prune_nil, Nat.reducePow, Nat.reduceDiv, Nat.reduceMod, Nat.reduceBEq, cond_true, cond_false]; with_reducible apply W_region_l)
    | (with_reducible refine W_prune 119 ?_; simp only [prune_cons, prune_nil, Nat.reducePow, Nat.reduceDiv, Nat.reduceMod, Nat.reduceBEq, cond_true, cond_false]; with_reducible refine W_region_draw (id := 7) 1 (.op 0 true (.op 1 true (.op 2 true (.op 3 true (.op 4 true (.op 5 true (.op 6 false (.done)))))))) (by kernel_rfl) ?_)
    | ((first | (with_reducible apply WL_op; intro nx hnx) | with_reducible refine Ev_out ?_ | (with_reducible apply popsD_op; intro nx hnx) | (with_reducible refine popsD_alt ?_ ?_; intro nx hnx) | (with_reducible refine pfresh_k hnm fun nm hnm => ?_; (try simp only [List.forall_mem_cons, List.not_mem_nil, false_implies, implies_true, and_true, true_and, ne_eq] at hnm))); try (simp (maxSteps := 2000000) (disch := omega) only [↓popG_eq, ↓pop.eq_1, ↓List.getElem?_map, ↓List.getElem?_cons_zero, ↓List.getElem?_cons_succ, pbuiltin, opnd, constPV, PState.put, fr_set, fr_getD_nil, fr_same, fr_other, layFrom, List.set, pnck, pguard_tt, pguard_tf, pguard_ft, pguard_ff, seqK, blockK, scopeK, List.map_cons, List.map_nil, List.getD_cons_zero, List.getD_cons_succ, List.getD_nil, List.getElem?_nil, Option.join_some, Option.join_none, pbin, pun, ppick, plen, pldop, pload, pfaddr, piaddr, pindex, pfield, pslice, pbound, pconv, pelems, pextract, pmm, parr, pbuild, pfill, PV.mem?, PV.one, PV.cells, pageq, peqs, peq1, palloc, pbox, pbuildS, pmakes, pstore, pappend, pcopy, pbytes, pmark, psrc, vcells, Value.oneCell', look, upd, del, names, Option.map_some, Option.map_none, List.length_cons, List.length_nil, List.all_cons, List.all_nil, Bool.and_true, Bool.true_and, Bool.not_true, Bool.not_false, List.take_zero, List.drop_zero, List.nil_append, List.cons_append, List.append_nil, Nat.reduceAdd, Nat.reduceMul, Nat.reduceSub, Nat.reduceLeDiff, Nat.reduceEqDiff, Nat.zero_add, Nat.add_zero, Nat.mul_one, Nat.zero_mul, List.drop_succ_cons, List.take_succ_cons, List.drop_nil, List.take_nil, ↓reduceIte, ne_eq, true_and, and_true, not_false_eq_true, reduceCtorEq, forall_const, List.toList_toArray, times, List.replicate_succ, List.replicate_zero, List.flatten_cons, List.flatten_nil, Value.cells, Int.toNat_natCast, Int.toNat_zero, Int.toNat_one, bl_mk, bl_lit, wr64, toNat_add1, toNat_sub1, map_getD, Int.natCast_nonneg, List.length_map, Bool.not_not, List.not_mem_nil, Option.some.injEq, exists_and_left, exists_eq_left', Int.cast_ofNat_Int, Int.natCast_zero, eq_self, List.size_toArray, Nat.reduceLT, Int.reduceLT, Int.reduceLE, Int.reduceToNat, Int.reduceAdd, Int.reduceSub, Int.reduceNeg, decide_true, decide_false, List.length_take, List.length_append, List.length_drop, hnm, Tryd.tf0, Tryd.tf1, Tryd.tf2, Tryd.tf3, Tryd.tf4, Tryd.tf5, Tryd.tf9, Tryd.tf22, Tryd.teq24, Tryd.tf29, Tryd.tf30, Tryd.teq30, Tryd.tf31, Tryd.teq31, Tryd.tf32, Tryd.tf34, Tryd.teq43, Tryd.teq44, Tryd.teq48, Tryd.teq54, Tryd.teq63, Tryd.call30, hN1, hN3, hl3, hg3, hl4, hg4, hl5, tm, ha64, hk, htr, hvb, hcp, hwk, hwn, hsn, hst5]); repeat (refine And.intro (by omega) ?_))
    | ((first | with_reducible apply WL_nil | with_reducible apply W_label | with_reducible apply W_skip | with_reducible apply W_exit | with_reducible apply W_ret | with_reducible apply popsD_done); try simp only [seqK, blockK, scopeK, ↓reduceIte, Nat.reduceEqDiff])
    | with_reducible exact popsD_stop
    | (with_reducible apply W_cond_k; intro _ _ ea eb; (simp only [condK, not_true_eq_false, not_false_eq_true, opnd, constPV, List.getD_cons_zero, List.getD_cons_succ, fr_getD_cons, fr_getD_nil, Nat.reduceEqDiff, Nat.reduceLT, ↓reduceIte, decide_eq_true_eq, decide_eq_false_iff_not, reduceCtorEq, false_implies, true_implies, and_true, true_and, Bool.not_eq_true, Bool.not_eq_false, forall_const, bne_iff_ne, bne_eq_false_iff_eq, beq_iff_eq, beq_eq_false_iff_ne, ne_eq, Decidable.not_not, Bool.not_eq_eq_eq_not, Bool.not_true, Bool.not_false, Bool.and_eq_true, Bool.or_eq_true, Int.natCast_inj, Bool.and_eq_false_iff, Bool.or_eq_false_iff]); subst ea eb; first | (refine ⟨fun hc => ?_, fun hc => ?_⟩ <;> first | (exfalso; omega) | (exfalso; exact hc trivial) | skip) | skip)
    | (with_reducible apply hnx; clear hnx nx)
    | (with_reducible refine And.intro (by omega) ?_)
    | (with_reducible refine And.intro ?_ ?_)
    | (clear hnx nx; with_reducible apply hnx; clear hnx nx)
    | (clear hnx nx; clear hnx nx; with_reducible apply hnx; clear hnx nx)
    | (clear hnx nx; clear hnx nx; clear hnx nx; with_reducible apply hnx; clear hnx nx))
      all_goals first
        | exact absurd ‹r = []› hre
        | (exfalso
           omega)
        | skip
      have hdr := st3_drop (Q := qOf y) (n := y.length) hS
      have h1y := st3_one (S := stS u) (Q := qOf y) (n := y.length)
      have hel : elemsOf 1 (List.map pbyte (qOf y) ++ [pint .u64 y.length]) 64 = (qOf y).map pbyte := elemsOf_bytes hQ2 _
      have hss := st3_sets (S' := stS y) (Q := qOf y) (n := y.length) hS
      have hs8 : ((stS y).map pw).length = 8 := by rw [List.length_map, stS_len]
      refine pcall_lend N2 ⟨34, false, 0, st3 (stS u) (qOf y) y.length⟩ (by simp [look, hN1]) (R := fun res H => res = .agg ((comp (stS u) (qOf y)).map pw) ∧ H = []) ?_ ?_
      · simp only [List.map_cons, List.map_nil, frz1, ↓reduceIte, hl5, hdr, hel, Nat.one_mul, Nat.mul_one, Nat.reduceAdd, Nat.reduceLeDiff, Nat.zero_lt_one, and_self]
        exact hcm
      · rintro _ _ ⟨rfl, rfl⟩
        refine ⟨rfl, Flat_all (by
          intro c hc
          obtain ⟨w, _, rfl⟩ := List.mem_map.1 hc
          exact ⟨_, rfl⟩), ?_⟩
        rw [← hstep hf]
        refine Ev_in ?_
        repeat' (first
    | (with_reducible apply W_seq_k; intro nx hnx)
    | with_reducible apply W_block
    | with_reducible apply W_scope
    | (with_reducible refine W_prune 119 ?_; simp only [prune_cons, prune_nil, Nat.reducePow, Nat.reduceDiv, Nat.reduceMod, Nat.reduceBEq, cond_true, cond_false]; with_reducible apply W_region_l)
    | (with_reducible refine W_prune 119 ?_; simp only [prune_cons, prune_nil, Nat.reducePow, Nat.reduceDiv, Nat.reduceMod, Nat.reduceBEq, cond_true, cond_false]; with_reducible refine W_region_draw (id := 7) 1 (.op 0 true (.op 1 true (.op 2 true (.op 3 true (.op 4 true (.op 5 true (.op 6 false (.done)))))))) (by kernel_rfl) ?_)
    | ((first | (with_reducible apply WL_op; intro nx hnx) | with_reducible refine Ev_out ?_ | (with_reducible apply popsD_op; intro nx hnx) | (with_reducible refine popsD_alt ?_ ?_; intro nx hnx) | (with_reducible refine pfresh_k hnm fun nm hnm => ?_; (try simp only [List.forall_mem_cons, List.not_mem_nil, false_implies, implies_true, and_true, true_and, ne_eq] at hnm))); try (simp (maxSteps := 2000000) (disch := omega) only [↓popG_eq, ↓pop.eq_1, ↓List.getElem?_map, ↓List.getElem?_cons_zero, ↓List.getElem?_cons_succ, pbuiltin, opnd, constPV, PState.put, fr_set, fr_getD_nil, fr_same, fr_other, layFrom, List.set, pnck, pguard_tt, pguard_tf, pguard_ft, pguard_ff, seqK, blockK, scopeK, List.map_cons, List.map_nil, List.getD_cons_zero, List.getD_cons_succ, List.getD_nil, List.getElem?_nil, Option.join_some, Option.join_none, pbin, pun, ppick, plen, pldop, pload, pfaddr, piaddr, pindex, pfield, pslice, pbound, pconv, pelems, pextract, pmm, parr, pbuild, pfill, PV.mem?, PV.one, PV.cells, pageq, peqs, peq1, palloc, pbox, pbuildS, pmakes, pstore, pappend, pcopy, pbytes, pmark, psrc, vcells, Value.oneCell', look, upd, del, names, Option.map_some, Option.map_none, List.length_cons, List.length_nil, List.all_cons, List.all_nil, Bool.and_true, Bool.true_and, Bool.not_true, Bool.not_false, List.take_zero, List.drop_zero, List.nil_append, List.cons_append, List.append_nil, Nat.reduceAdd, Nat.reduceMul, Nat.reduceSub, Nat.reduceLeDiff, Nat.reduceEqDiff, Nat.zero_add, Nat.add_zero, Nat.mul_one, Nat.zero_mul, List.drop_succ_cons, List.take_succ_cons, List.drop_nil, List.take_nil, ↓reduceIte, ne_eq, true_and, and_true, not_false_eq_true, reduceCtorEq, forall_const, List.toList_toArray, times, List.replicate_succ, List.replicate_zero, List.flatten_cons, List.flatten_nil, Value.cells, Int.toNat_natCast, Int.toNat_zero, Int.toNat_one, bl_mk, bl_lit, wr64, toNat_add1, toNat_sub1, map_getD, Int.natCast_nonneg, List.length_map, Bool.not_not, List.not_mem_nil, Option.some.injEq, exists_and_left, exists_eq_left', Int.cast_ofNat_Int, Int.natCast_zero, eq_self, List.size_toArray, Nat.reduceLT, Int.reduceLT, Int.reduceLE, Int.reduceToNat, Int.reduceAdd, Int.reduceSub, Int.reduceNeg, decide_true, decide_false, List.length_take, List.length_append, List.length_drop, hnm, Tryd.tf0, Tryd.tf1, Tryd.tf2, Tryd.tf3, Tryd.tf4, Tryd.tf5, Tryd.tf9, Tryd.tf22, Tryd.teq24, Tryd.tf29, Tryd.tf30, Tryd.teq30, Tryd.tf31, Tryd.teq31, Tryd.tf32, Tryd.tf34, Tryd.teq43, Tryd.teq44, Tryd.teq48, Tryd.teq54, Tryd.teq63, Tryd.call30, hN1, hN3, hl3, hl4, hl5, hss, hs8, all_one_pw]); repeat (refine And.intro (by omega) ?_))
    | ((first | with_reducible apply WL_nil | with_reducible apply W_label | with_reducible apply W_skip | with_reducible apply W_exit | with_reducible apply W_ret | with_reducible apply popsD_done); try simp only [seqK, blockK, scopeK, ↓reduceIte, Nat.reduceEqDiff])
    | with_reducible exact popsD_stop
    | (with_reducible apply W_cond_k; intro _ _ ea eb; (simp only [condK, not_true_eq_false, not_false_eq_true, opnd, constPV, List.getD_cons_zero, List.getD_cons_succ, fr_getD_cons, fr_getD_nil, Nat.reduceEqDiff, Nat.reduceLT, ↓reduceIte, decide_eq_true_eq, decide_eq_false_iff_not, reduceCtorEq, false_implies, true_implies, and_true, true_and, Bool.not_eq_true, Bool.not_eq_false, forall_const, bne_iff_ne, bne_eq_false_iff_eq, beq_iff_eq, beq_eq_false_iff_ne, ne_eq, Decidable.not_not, Bool.not_eq_eq_eq_not, Bool.not_true, Bool.not_false, Bool.and_eq_true, Bool.or_eq_true, Int.natCast_inj, Bool.and_eq_false_iff, Bool.or_eq_false_iff]); subst ea eb; first | (refine ⟨fun hc => ?_, fun hc => ?_⟩ <;> first | (exfalso; omega) | (exfalso; exact hc trivial) | skip) | skip)
    | (with_reducible apply hnx; clear hnx nx)
    | (with_reducible refine And.intro (by omega) ?_)
    | (with_reducible refine And.intro ?_ ?_)
    | (clear hnx nx; with_reducible apply hnx; clear hnx nx)
    | (clear hnx nx; clear hnx nx; with_reducible apply hnx; clear hnx nx)
    | (clear hnx nx; clear hnx nx; clear hnx nx; with_reducible apply hnx; clear hnx nx))
        all_goals first
          | (exfalso
             omega)
          | (refine hlp _ (x.length - (j + k)) _ (by omega) ?_ ⟨j + k, by omega, rfl, rfl⟩
             rw [← htk, ← hxd]
             refine Wk_fr (by simp only [List.forall_mem_cons, List.not_mem_nil, false_implies, implies_true, and_true, true_and, and_self, fr_getD_cons, fr_getD_nil, Nat.reduceEqDiff, Nat.reduceLT, ↓reduceIte, Int.natCast_add, Int.cast_ofNat_Int, Int.natCast_zero]) ?_
             exact Sub_refl hnd)
          | skip
    · repeat' (first
    | (with_reducible apply W_seq_k; intro nx hnx)
    | with_reducible apply W_block
    | with_reducible apply W_scope
    | (with_reducible refine W_prune 119 ?_; simp only [prune_cons, prune_nil, Nat.reducePow, Nat.reduceDiv, Nat.reduceMod, Nat.reduceBEq, cond_true, cond_false]; with_reducible apply W_region_l)
    | (with_reducible refine W_prune 119 ?_; simp only [prune_cons, prune_nil, Nat.reducePow, Nat.reduceDiv, Nat.reduceMod, Nat.reduceBEq, cond_true, cond_false]; with_reducible refine W_region_draw (id := 7) 1 (.op 0 true (.op 1 true (.op 2 true (.op 3 true (.op 4 true (.op 5 true (.op 6 false (.done)))))))) (by kernel_rfl) ?_)
    | ((first | (with_reducible apply WL_op; intro nx hnx) | with_reducible refine Ev_out ?_ | (with_reducible apply popsD_op; intro nx hnx) | (with_reducible refine popsD_alt ?_ ?_; intro nx hnx) | (with_reducible refine pfresh_k hnm fun nm hnm => ?_; (try simp only [List.forall_mem_cons, List.not_mem_nil, false_implies, implies_true, and_true, true_and, ne_eq] at hnm))); try (simp (maxSteps := 2000000) (disch := omega) only [↓popG_eq, ↓pop.eq_1, ↓List.getElem?_map, ↓List.getElem?_cons_zero, ↓List.getElem?_cons_succ, pbuiltin, opnd, constPV, PState.put, fr_set, fr_getD_nil, fr_same, fr_other, layFrom, List.set, pnck, pguard_tt, pguard_tf, pguard_ft, pguard_ff, seqK, blockK, scopeK, List.map_cons, List.map_nil, List.getD_cons_zero, List.getD_cons_succ, List.getD_nil, List.getElem?_nil, Option.join_some, Option.join_none, pbin, pun, ppick, plen, pldop, pload, pfaddr, piaddr, pindex, pfield, pslice, pbound, pconv, pelems, pextract, pmm, parr, pbuild, pfill, PV.mem?, PV.one, PV.cells, pageq, peqs, peq1, palloc, pbox, pbuildS, pmakes, pstore, pappend, pcopy, pbytes, pmark, psrc, vcells, Value.oneCell', look, upd, del, names, Option.map_some, Option.map_none, List.length_cons, List.length_nil, List.all_cons, List.all_nil, Bool.and_true, Bool.true_and, Bool.not_true, Bool.not_false, List.take_zero, List.drop_zero, List.nil_append, List.cons_append, List.append_nil, Nat.reduceAdd, Nat.reduceMul, Nat.reduceSub, Nat.reduceLeDiff, Nat.reduceEqDiff, Nat.zero_add, Nat.add_zero, Nat.mul_one, Nat.zero_mul, List.drop_succ_cons, List.take_succ_cons, List.drop_nil, List.take_nil, ↓reduceIte, ne_eq, true_and, and_true, not_false_eq_true, reduceCtorEq, forall_const, List.toList_toArray, times, List.replicate_succ, List.replicate_zero, List.flatten_cons, List.flatten_nil, Value.cells, Int.toNat_natCast, Int.toNat_zero, Int.toNat_one, bl_mk, bl_lit, wr64, toNat_add1, toNat_sub1, map_getD, Int.natCast_nonneg, List.length_map, Bool.not_not, List.not_mem_nil, Option.some.injEq, exists_and_left, exists_eq_left', Int.cast_ofNat_Int, Int.natCast_zero, eq_self, List.size_toArray, Nat.reduceLT, Int.reduceLT, Int.reduceLE, Int.reduceToNat, Int.reduceAdd, Int.reduceSub, Int.reduceNeg, decide_true, decide_false, List.length_take, List.length_append, List.length_drop, hnm, Tryd.tf0, Tryd.tf1, Tryd.tf2, Tryd.tf3, Tryd.tf4, Tryd.tf5, Tryd.tf9, Tryd.tf22, Tryd.teq24, Tryd.tf29, Tryd.tf30, Tryd.teq30, Tryd.tf31, Tryd.teq31, Tryd.tf32, Tryd.tf34, Tryd.teq43, Tryd.teq44, Tryd.teq48, Tryd.teq54, Tryd.teq63, Tryd.call30, hN1, hN3, hl3, hg3, hl4, hg4, tm, ha64, hk, htr, hvb, hcp, hwk, hwn, hsn]); repeat (refine And.intro (by omega) ?_))
    | ((first | with_reducible apply WL_nil | with_reducible apply W_label | with_reducible apply W_skip | with_reducible apply W_exit | with_reducible apply W_ret | with_reducible apply popsD_done); try simp only [seqK, blockK, scopeK, ↓reduceIte, Nat.reduceEqDiff])
    | with_reducible exact popsD_stop
    | (with_reducible apply W_cond_k; intro _ _ ea eb; (simp only [condK, not_true_eq_false, not_false_eq_true, opnd, constPV, List.getD_cons_zero, List.getD_cons_succ, fr_getD_cons, fr_getD_nil, Nat.reduceEqDiff, Nat.reduceLT, ↓reduceIte, decide_eq_true_eq, decide_eq_false_iff_not, reduceCtorEq, false_implies, true_implies, and_true, true_and, Bool.not_eq_true, Bool.not_eq_false, forall_const, bne_iff_ne, bne_eq_false_iff_eq, beq_iff_eq, beq_eq_false_iff_ne, ne_eq, Decidable.not_not, Bool.not_eq_eq_eq_not, Bool.not_true, Bool.not_false, Bool.and_eq_true, Bool.or_eq_true, Int.natCast_inj, Bool.and_eq_false_iff, Bool.or_eq_false_iff]); subst ea eb; first | (refine ⟨fun hc => ?_, fun hc => ?_⟩ <;> first | (exfalso; omega) | (exfalso; exact hc trivial) | skip) | skip)
    | (with_reducible apply hnx; clear hnx nx)
    | (with_reducible refine And.intro (by omega) ?_)
    | (with_reducible refine And.intro ?_ ?_)
    | (clear hnx nx; with_reducible apply hnx; clear hnx nx)
    | (clear hnx nx; clear hnx nx; with_reducible apply hnx; clear hnx nx)
    | (clear hnx nx; clear hnx nx; clear hnx nx; with_reducible apply hnx; clear hnx nx))
      all_goals first
        | exact absurd ‹r = []› hre
        | (exfalso
           omega)
        | skip
      refine hlp _ (x.length - (j + k)) _ (by omega) ?_ ⟨j + k, by omega, rfl, rfl⟩
      rw [← htk, hkeep hf, ← hxd]
      refine Wk_fr (by simp only [List.forall_mem_cons, List.not_mem_nil, false_implies, implies_true, and_true, true_and, and_self, fr_getD_cons, fr_getD_nil, Nat.reduceEqDiff, Nat.reduceLT, ↓reduceIte, Int.natCast_add, Int.cast_ofNat_Int, Int.natCast_zero]) ?_
      exact Sub_refl hnd
end Go.PM
