/- Joined texts (Lg Lh Lm Lq Lk Cc Cd Ce Cf): the machine, the contracts, the laws. Conditions: none but those that each names. -/
import Derived.Test.YtileofnjcediaaaDoorJc
set_option linter.unusedSimpArgs false
set_option linter.unusedVariables false
namespace Go.PM
open Go.Proofs
attribute [local irreducible] W PCalls pcall pcallI WL
/-- What lies at a place of the block of a stream to which t was added. -/
def qB (t : List UInt8) (i : Nat) : UInt8 := if i < t.length % 64 then t.getD (64 * (t.length / 64) + i) 0 else if 64 ≤ t.length then t.getD (64 * (t.length / 64 - 1) + i) 0 else 0
def qOf (t : List UInt8) : List UInt8 := (List.range 64).map (qB t)
def stS (t : List UInt8) : List UInt32 := blk H0 t (t.length / 64)
/-- The cells of a stream to which t was added. -/
def stC (t : List UInt8) : List PV := (stS t).map pw ++ (qOf t).map pbyte ++ [pint .u64 t.length]
/-- The stream to which t was added. -/
@[reducible] def stP (t : List UInt8) : PV := .agg (stC t)
theorem blk_app (s : List UInt32) (b v : List UInt8) : ∀ k, 64 * k ≤ b.length → blk s (b ++ v) k = blk s b k
  | 0, _ => rfl
  | k + 1, h => by
    have e : ((b ++ v).drop (64 * k)).take 64 = (b.drop (64 * k)).take 64 := by
      rw [List.drop_append_of_le_length (by omega), List.take_append_of_le_length (by rw [List.length_drop]; omega)]
    rw [blk, blk, blk_app s b v k (by omega), e]
theorem stS_len (t : List UInt8) : (stS t).length = 8 := blk_len _ _ H0_len _
theorem qOf_len (t : List UInt8) : (qOf t).length = 64 := by simp [qOf]
theorem qOf_get (t : List UInt8) (i : Nat) (h : i < 64) : (qOf t)[i]? = some (qB t i) := by simp [qOf, h]
theorem getD_left (u v : List UInt8) (i : Nat) (h : i < u.length) : (u ++ v).getD i 0 = u.getD i 0 := by
  rw [List.getD_eq_getElem?_getD, List.getD_eq_getElem?_getD, List.getElem?_append_left h]
theorem getD_right (u v : List UInt8) (i : Nat) (h : u.length ≤ i) : (u ++ v).getD i 0 = v.getD (i - u.length) 0 := by
  rw [List.getD_eq_getElem?_getD, List.getD_eq_getElem?_getD, List.getElem?_append_right h]
theorem qOf_step (u v : List UInt8) (a : Nat) (ha : a = u.length % 64) (h0 : 0 < v.length) (h : a + v.length ≤ 64) : (qOf u).take a ++ v ++ (qOf u).drop (a + v.length) = qOf (u ++ v) := by
  have hl : (u ++ v).length = u.length + v.length := List.length_append
  apply List.ext_getElem?
  intro i
  have ht : ((qOf u).take a).length = a := by rw [List.length_take, qOf_len]; omega
  rcases Nat.lt_or_ge i 64 with hi | hi
  · rw [qOf_get _ _ hi]
    rcases Nat.lt_or_ge i a with h1 | h1
    · rw [List.append_assoc, List.getElem?_append_left (by omega), List.getElem?_take_of_lt h1, qOf_get _ _ hi]
      congr 1
      unfold qB
      rw [if_pos (by omega)]
      rcases Nat.lt_or_ge (a + v.length) 64 with h2 | h2
      · rw [if_pos (by omega), show (u ++ v).length / 64 = u.length / 64 by omega, getD_left _ _ _ (by omega)]
      · rw [if_neg (by omega), if_pos (by omega), show (u ++ v).length / 64 - 1 = u.length / 64 by omega, getD_left _ _ _ (by omega)]
    · rcases Nat.lt_or_ge i (a + v.length) with h2 | h2
      · rw [List.getElem?_append_left (by rw [List.length_append]; omega), List.getElem?_append_right (by omega), ht, List.getElem?_eq_getElem (by omega)]
        congr 1
        have e : ∀ w : Nat, w = u.length / 64 → v[i - a]'(by omega) = (u ++ v).getD (64 * w + i) 0 := by
          intro w hw
          have h3 : 64 * w + i - u.length = i - a := by omega
          rw [getD_right _ _ _ (by omega), h3, List.getD_eq_getElem?_getD, List.getElem?_eq_getElem (by omega)]
          rfl
        unfold qB
        rcases Nat.lt_or_ge (a + v.length) 64 with h3 | h3
        · rw [if_pos (by omega)]
          exact e _ (by omega)
        · rw [if_neg (by omega), if_pos (by omega)]
          exact e _ (by omega)
      · rw [List.getElem?_append_right (by rw [List.length_append]; omega), List.length_append, ht, List.getElem?_drop, show a + v.length + (i - (a + v.length)) = i by omega, qOf_get _ _ hi]
        congr 1
        unfold qB
        by_cases h3 : 64 ≤ u.length
        · rw [if_neg (by omega), if_pos h3, if_neg (by omega), if_pos (by omega), show (u ++ v).length / 64 = u.length / 64 by omega, getD_left _ _ _ (by omega)]
        · rw [if_neg (by omega), if_neg h3, if_neg (by omega), if_neg (by omega)]
  · rw [List.getElem?_eq_none (by simp only [List.length_append, List.length_drop, ht, qOf_len]; omega), List.getElem?_eq_none (by rw [qOf_len]; exact hi)]
theorem stS_keep (u v : List UInt8) (h : u.length % 64 + v.length < 64) : stS (u ++ v) = stS u := by
  unfold stS
  rw [show (u ++ v).length / 64 = u.length / 64 by rw [List.length_append]; omega, blk_app _ _ _ _ (by omega)]
theorem stS_step (u v : List UInt8) (h0 : 0 < v.length) (h : u.length % 64 + v.length = 64) : stS (u ++ v) = comp (stS u) (qOf (u ++ v)) := by
  have hl : (u ++ v).length = u.length + v.length := List.length_append
  unfold stS
  rw [show (u ++ v).length / 64 = u.length / 64 + 1 by omega, blk, blk_app _ _ _ _ (by omega)]
  congr 1
  apply List.ext_getElem?
  intro i
  rcases Nat.lt_or_ge i 64 with hi | hi
  · rw [qOf_get _ _ hi, List.getElem?_take_of_lt hi, List.getElem?_drop, List.getElem?_eq_getElem (by omega)]
    unfold qB
    rw [if_neg (by omega), if_pos (by omega), show (u ++ v).length / 64 - 1 = u.length / 64 by omega, List.getD_eq_getElem?_getD, List.getElem?_eq_getElem (by omega)]
    rfl
  · rw [List.getElem?_eq_none (by rw [List.length_take]; omega), List.getElem?_eq_none (by rw [qOf_len]; exact hi)]
theorem elemsOf_one {cs : List PV} {n : Nat} (h : n ≤ cs.length) : elemsOf 1 cs n = cs.take n := by
  rw [elemsOf, if_pos rfl]
theorem elemsOf_bytes {q : List UInt8} {n : Nat} (hq : q.length = n) (rest : List PV) : elemsOf 1 (q.map pbyte ++ rest) n = q.map pbyte := by
  rw [elemsOf_one (by simp [hq]), List.take_append_of_le_length (by simp [hq]), List.take_of_length_le (by simp [hq])]
/-- Cells of a stream. -/
def st3 (S : List UInt32) (Q : List UInt8) (n : Nat) : List PV := S.map pw ++ Q.map pbyte ++ [pint .u64 n]
theorem stC_st3 (t : List UInt8) : stC t = st3 (stS t) (qOf t) t.length := rfl
section
variable {S S' : List UInt32} {Q : List UInt8} {n n' : Nat} (hS : S.length = 8) (hQ : Q.length = 64)
theorem st3_len (hS : S.length = 8) (hQ : Q.length = 64) : (st3 S Q n).length = 73 := by simp [st3, hS, hQ]
theorem st3_n (hS : S.length = 8) (hQ : Q.length = 64) : (st3 S Q n)[72]? = some (pint .u64 n) := by
  rw [st3, List.getElem?_append_right (by simp [hS, hQ])]
  simp [hS, hQ]
theorem st3_copy (hS : S.length = 8) (hQ : Q.length = 64) (v : List UInt8) (a : Nat) (h : a + v.length ≤ 64) : List.take (8 + a) (st3 S Q n) ++ v.map pbyte ++ List.drop (8 + a + v.length) (st3 S Q n) = st3 S (Q.take a ++ v ++ Q.drop (a + v.length)) n := by
  have e1 : List.take (8 + a) (st3 S Q n) = S.map pw ++ (Q.take a).map pbyte := by
    rw [st3, List.append_assoc, List.take_append, List.length_map, hS, List.take_of_length_le (by rw [List.length_map]; omega), show 8 + a - 8 = a by omega, List.take_append_of_le_length (by rw [List.length_map]; omega), List.map_take]
  have e2 : List.drop (8 + a + v.length) (st3 S Q n) = (Q.drop (a + v.length)).map pbyte ++ [pint .u64 n] := by
    rw [st3, List.append_assoc, List.drop_append, List.length_map, hS, List.drop_of_length_le (by rw [List.length_map]; omega), List.nil_append, show 8 + a + v.length - 8 = a + v.length by omega, List.drop_append_of_le_length (by rw [List.length_map]; omega), List.map_drop]
  rw [e1, e2, st3]
  simp only [List.map_append, List.append_assoc]
theorem st3_setn (hS : S.length = 8) (hQ : Q.length = 64) : List.take 72 (st3 S Q n) ++ [pint .u64 n'] ++ List.drop 73 (st3 S Q n) = st3 S Q n' := by
  rw [List.drop_of_length_le (by rw [st3_len hS hQ]; omega), List.append_nil, st3, List.take_append_of_le_length (by simp [hS, hQ]), List.take_of_length_le (by simp [hS, hQ]), st3]
theorem st3_state (hS : S.length = 8) : List.take 8 (st3 S Q n) = S.map pw := by
  rw [st3, List.append_assoc, List.take_append_of_le_length (by simp [hS]), List.take_of_length_le (by simp [hS])]
theorem st3_sets (hS : S.length = 8) : S'.map pw ++ List.drop 8 (st3 S Q n) = st3 S' Q n := by
  rw [st3, List.append_assoc, List.drop_append_of_le_length (by simp [hS]), List.drop_of_length_le (by simp [hS]), List.nil_append, st3, List.append_assoc]
theorem st3_drop (hS : S.length = 8) : List.drop 8 (st3 S Q n) = Q.map pbyte ++ [pint .u64 n] := by
  rw [st3, List.append_assoc, List.drop_append_of_le_length (by simp [hS]), List.drop_of_length_le (by simp [hS]), List.nil_append]
theorem st3_one : (st3 S Q n).all PV.one = true := by
  rw [st3, List.all_append, List.all_append, all_one_pw, all_one_byte]
  rfl
end
attribute [irreducible] st3
set_option maxRecDepth 100000 in
theorem hbegin_c (G : Globs) : PCalls Tryd.prog G 56 [] [] (fun res H => res = stP [] ∧ H = []) := by
  (refine PCalls_f Tryd.func56 rfl Tryd.ntmps56 Tryd.results56 (by simp) fun fin hfin => ?_; have hnm : True := trivial; simp (maxSteps := 2000000) (disch := omega) only [evb, ↓popG_eq, ↓pop.eq_1, ↓List.getElem?_map, ↓List.getElem?_cons_zero, ↓List.getElem?_cons_succ, pbuiltin, opnd, constPV, PState.put, layFrom, List.set, pnck, seqK, blockK, scopeK, pbin, pun, ppick, plen, pldop, pload, pfaddr, piaddr, pindex, pfield, pslice, pbound, pconv, pelems, pextract, pmm, parr, pbuild, pfill, PV.mem?, PV.one, PV.cells, pageq, peqs, peq1, palloc, pbox, pbuildS, pmakes, pstore, pappend, pcopy, pbytes, pmark, psrc, vcells, Value.oneCell', look, upd, del, names, Nat.reduceAdd, Nat.reduceMul, Nat.reduceSub, Nat.reduceLeDiff, Nat.reduceEqDiff, ↓reduceIte, ne_eq, reduceCtorEq, forall_const, times, Value.cells, exists_and_left, exists_eq_left', eq_self, Nat.reduceLT, Int.reduceLT, Int.reduceLE, Int.reduceToNat, Int.reduceAdd, Int.reduceSub, Int.reduceNeg, hnm, Tryd.tf0, Tryd.teq30, Tryd.teq57, Tryd.teq58, Tryd.tf78, Tryd.tf79, Tryd.teq79, Tryd.teq80, Tryd.tf83, Tryd.teq86, Tryd.teq88, Tryd.teq96, Tryd.teq98])
  repeat' (first
    | (with_reducible apply W_seq_k; intro nx hnx)
    | with_reducible apply W_block
    | with_reducible apply W_scope
    | (with_reducible refine W_prune 1 ?_; simp only [prune_cons, prune_nil, Nat.reducePow, Nat.reduceDiv, Nat.reduceMod, Nat.reduceBEq, cond_true, cond_false]; with_reducible apply W_region_l)
    | ((first | (with_reducible apply WL_op; intro nx hnx) | with_reducible refine Ev_out ?_ | (with_reducible refine pfresh_k hnm fun nm hnm => ?_; (try simp only [List.forall_mem_cons, List.not_mem_nil, false_implies, implies_true, and_true, true_and, ne_eq] at hnm))); try (simp (maxSteps := 2000000) (disch := omega) only [evb, ↓popG_eq, ↓pop.eq_1, ↓List.getElem?_map, ↓List.getElem?_cons_zero, ↓List.getElem?_cons_succ, pbuiltin, opnd, constPV, PState.put, layFrom, List.set, pnck, seqK, blockK, scopeK, pbin, pun, ppick, plen, pldop, pload, pfaddr, piaddr, pindex, pfield, pslice, pbound, pconv, pelems, pextract, pmm, parr, pbuild, pfill, PV.mem?, PV.one, PV.cells, pageq, peqs, peq1, palloc, pbox, pbuildS, pmakes, pstore, pappend, pcopy, pbytes, pmark, psrc, vcells, Value.oneCell', look, upd, del, names, Nat.reduceAdd, Nat.reduceMul, Nat.reduceSub, Nat.reduceLeDiff, Nat.reduceEqDiff, ↓reduceIte, ne_eq, reduceCtorEq, forall_const, times, Value.cells, exists_and_left, exists_eq_left', eq_self, Nat.reduceLT, Int.reduceLT, Int.reduceLE, Int.reduceToNat, Int.reduceAdd, Int.reduceSub, Int.reduceNeg, hnm, Tryd.tf0, Tryd.teq30, Tryd.teq57, Tryd.teq58, Tryd.tf78, Tryd.tf79, Tryd.teq79, Tryd.teq80, Tryd.tf83, Tryd.teq86, Tryd.teq88, Tryd.teq96, Tryd.teq98]); repeat (refine And.intro (by omega) ?_))
    | ((first | with_reducible apply WL_nil | with_reducible apply W_label | with_reducible apply W_skip | with_reducible apply W_exit | with_reducible apply W_ret); try simp only [seqK, blockK, scopeK, ↓reduceIte, Nat.reduceEqDiff])
    | (with_reducible apply W_cond_k; intro _ _ ea eb; (simp only [condK, not_true_eq_false, not_false_eq_true, opnd, constPV, List.getD_cons_zero, List.getD_cons_succ, fr_getD_cons, fr_getD_nil, Nat.reduceEqDiff, Nat.reduceLT, ↓reduceIte, hcb, reduceCtorEq, false_implies, true_implies, forall_const, bne_iff_ne, beq_iff_eq, ne_eq]); subst ea eb; first | (refine ⟨fun hc => ?_, fun hc => ?_⟩ <;> first | (exfalso; omega) | (exfalso; exact hc trivial) | skip) | skip)
    | (with_reducible apply hnx; clear hnx nx)
    | (with_reducible refine And.intro (by omega) ?_)
    | (with_reducible refine And.intro ?_ ?_)
    | (clear hnx nx; with_reducible apply hnx; clear hnx nx)
    | (clear hnx nx; clear hnx nx; with_reducible apply hnx; clear hnx nx)
    | (clear hnx nx; clear hnx nx; clear hnx nx; with_reducible apply hnx; clear hnx nx))
  refine hfin _ _ (Fin_cell (res := stP []) Tryd.tf83 (n := nm) (off := 0) (o := ⟨83, false, 0, stC []⟩) (by simp only [fr_getD_cons, Nat.reduceEqDiff, Nat.reduceLT, ↓reduceIte]) (by simp only [look, ↓reduceIte]; rfl) ?_ (Sub_nil _) ⟨rfl, rfl⟩)
  have h1 := st3_len (n := ([] : List UInt8).length) (stS_len []) (qOf_len [])
  have h2 := st3_one (S := stS []) (Q := qOf []) (n := ([] : List UInt8).length)
  rw [stC_st3]
  simp only [pload, h1, h2]
  rw [if_pos trivial]
  refine ⟨by omega, ?_⟩
  rw [List.drop_zero, List.take_of_length_le (by omega)]
  exact congrArg PV.agg (stC_st3 [])
set_option maxRecDepth 100000 in
set_option maxHeartbeats 8000000 in
theorem add_c (G : Globs) (hG : G 1 = .iptr (KS.map pw) 0) (t x : List UInt8) (hb : t.length + x.length ≤ 4294967296) : PCalls Tryd.prog G 57 [stP t, pstr x] [] (fun res H => res = stP (t ++ x) ∧ H = []) := by
  have hst := st3_len (n := t.length) (stS_len t) (qOf_len t)
  have hone := st3_one (S := stS t) (Q := qOf t) (n := t.length)
  unfold stP
  rw [stC_st3 t]
  obtain ⟨zs, hzs⟩ : ∃ zs, zs = List.replicate 8 (pint .u32 0) ++ List.replicate 64 (pint .u8 0) ++ [pint .u64 0] := ⟨_, rfl⟩
  have hzl : zs.length = 73 := by rw [hzs]; rfl
  (refine PCalls_f Tryd.func57 rfl Tryd.ntmps57 Tryd.results57 (by simp) fun fin hfin => ?_; have hnm : True := trivial; simp (maxSteps := 2000000) (disch := omega) only [evb, ↓popG_eq, ↓pop.eq_1, ↓List.getElem?_map, ↓List.getElem?_cons_zero, ↓List.getElem?_cons_succ, pbuiltin, opnd, constPV, PState.put, layFrom, List.set, pnck, seqK, blockK, scopeK, pbin, pun, ppick, plen, pldop, pload, pfaddr, piaddr, pindex, pfield, pslice, pbound, pconv, pelems, pextract, pmm, parr, pbuild, pfill, PV.mem?, PV.one, PV.cells, pageq, peqs, peq1, palloc, pbox, pbuildS, pmakes, pstore, pappend, pcopy, pbytes, pmark, psrc, vcells, Value.oneCell', look, upd, del, names, Nat.reduceAdd, Nat.reduceMul, Nat.reduceSub, Nat.reduceLeDiff, Nat.reduceEqDiff, ↓reduceIte, ne_eq, reduceCtorEq, forall_const, times, Value.cells, exists_and_left, exists_eq_left', eq_self, Nat.reduceLT, Int.reduceLT, Int.reduceLE, Int.reduceToNat, Int.reduceAdd, Int.reduceSub, Int.reduceNeg, hnm, Tryd.tf0, Tryd.tf1, Tryd.tf2, Tryd.tf3, Tryd.tf4, Tryd.tf5, Tryd.tf9, Tryd.teq30, Tryd.tf53, Tryd.teq57, Tryd.teq58, Tryd.tf78, Tryd.tf79, Tryd.teq79, Tryd.tf80, Tryd.teq80, Tryd.tf81, Tryd.tf83, Tryd.teq86, Tryd.teq88, Tryd.teq96, Tryd.teq98, Tryd.call65])
  repeat' (first
    | (with_reducible apply W_seq_k; intro nx hnx)
    | with_reducible apply W_block
    | with_reducible apply W_scope
    | (with_reducible refine W_prune 119 ?_; simp only [prune_cons, prune_nil, Nat.reducePow, Nat.reduceDiv, Nat.reduceMod, Nat.reduceBEq, cond_true, cond_false]; with_reducible apply W_region_l)
    | (with_reducible refine W_prune 119 ?_; simp only [prune_cons, prune_nil, Nat.reducePow, Nat.reduceDiv, Nat.reduceMod, Nat.reduceBEq, cond_true, cond_false]; with_reducible refine W_region_draw (id := 7) 1 (.op 0 true (.op 1 true (.op 2 true (.op 3 true (.op 4 true (.op 5 true (.op 6 false (.done)))))))) (by kernel_rfl) ?_)
    | ((first | (with_reducible apply WL_op; intro nx hnx) | with_reducible refine Ev_out ?_ | (with_reducible apply popsD_op; intro nx hnx) | (with_reducible refine popsD_alt ?_ ?_; intro nx hnx) | (with_reducible refine pfresh_k hnm fun nm hnm => ?_; (try simp only [List.forall_mem_cons, List.not_mem_nil, false_implies, implies_true, and_true, true_and, ne_eq] at hnm))); try (simp (maxSteps := 2000000) (disch := omega) only [evb, ↓popG_eq, ↓pop.eq_1, ↓List.getElem?_map, ↓List.getElem?_cons_zero, ↓List.getElem?_cons_succ, pbuiltin, opnd, constPV, PState.put, layFrom, List.set, pnck, seqK, blockK, scopeK, pbin, pun, ppick, plen, pldop, pload, pfaddr, piaddr, pindex, pfield, pslice, pbound, pconv, pelems, pextract, pmm, parr, pbuild, pfill, PV.mem?, PV.one, PV.cells, pageq, peqs, peq1, palloc, pbox, pbuildS, pmakes, pstore, pappend, pcopy, pbytes, pmark, psrc, vcells, Value.oneCell', look, upd, del, names, Nat.reduceAdd, Nat.reduceMul, Nat.reduceSub, Nat.reduceLeDiff, Nat.reduceEqDiff, ↓reduceIte, ne_eq, reduceCtorEq, forall_const, times, Value.cells, exists_and_left, exists_eq_left', eq_self, Nat.reduceLT, Int.reduceLT, Int.reduceLE, Int.reduceToNat, Int.reduceAdd, Int.reduceSub, Int.reduceNeg, hnm, Tryd.tf0, Tryd.tf1, Tryd.tf2, Tryd.tf3, Tryd.tf4, Tryd.tf5, Tryd.tf9, Tryd.teq30, Tryd.tf53, Tryd.teq57, Tryd.teq58, Tryd.tf78, Tryd.tf79, Tryd.teq79, Tryd.tf80, Tryd.teq80, Tryd.tf81, Tryd.tf83, Tryd.teq86, Tryd.teq88, Tryd.teq96, Tryd.teq98, Tryd.call65, hst, hone]); repeat (refine And.intro (by omega) ?_))
    | ((first | with_reducible apply WL_nil | with_reducible apply W_label | with_reducible apply W_skip | with_reducible apply W_exit | with_reducible apply W_ret | with_reducible apply popsD_done); try simp only [seqK, blockK, scopeK, ↓reduceIte, Nat.reduceEqDiff])
    | with_reducible exact popsD_stop
    | (with_reducible apply W_cond_k; intro _ _ ea eb; (simp only [condK, not_true_eq_false, not_false_eq_true, opnd, constPV, List.getD_cons_zero, List.getD_cons_succ, fr_getD_cons, fr_getD_nil, Nat.reduceEqDiff, Nat.reduceLT, ↓reduceIte, hcb, reduceCtorEq, false_implies, true_implies, forall_const, bne_iff_ne, beq_iff_eq, ne_eq]); subst ea eb; first | (refine ⟨fun hc => ?_, fun hc => ?_⟩ <;> first | (exfalso; omega) | (exfalso; exact hc trivial) | skip) | skip)
    | (with_reducible apply hnx; clear hnx nx)
    | (with_reducible refine And.intro (by omega) ?_)
    | (with_reducible refine And.intro ?_ ?_)
    | (clear hnx nx; with_reducible apply hnx; clear hnx nx)
    | (clear hnx nx; clear hnx nx; with_reducible apply hnx; clear hnx nx)
    | (clear hnx nx; clear hnx nx; clear hnx nx; with_reducible apply hnx; clear hnx nx))
  rename_i N2 _
  obtain ⟨N4, hN4'⟩ : ∃ N, N = nm := ⟨_, rfl⟩
  subst hN4'
  have hN : N4 ≠ N2 := by simp only [ne_eq, hnm, not_false_eq_true]
  have hN1 : ¬ N4 = N2 := hN
  have hN3 : ¬ N2 = N4 := fun e => hN e.symm
  clear hnm
  have hnm : True := trivial
  have hnd : [N4, N2].Nodup := by simp [hN1]
  refine W_loop_k (fun z τ => ∃ j : Nat, j ≤ x.length ∧ z = x.length - j ∧ τ = ⟨fr 38 [(4, .ptr N4 0), (2, .ptr N2 0), (1, pstr (x.drop j))], [(N4, ⟨83, false, 0, zs⟩), (N2, ⟨83, false, 0, st3 (stS (t ++ x.take j)) (qOf (t ++ x.take j)) (t ++ x.take j).length⟩)]⟩) x.length
    ⟨fr 38 [(4, .ptr N4 0), (2, .ptr N2 0), (1, pstr x)], [(N4, ⟨83, false, 0, zs⟩), (N2, ⟨83, false, 0, st3 (stS t) (qOf t) t.length⟩)]⟩ (by
    rw [hzs]
    refine Wk_fr (by simp only [List.forall_mem_cons, List.not_mem_nil, false_implies, implies_true, and_true, true_and, and_self, fr_getD_cons, fr_getD_nil, Nat.reduceEqDiff, Nat.reduceLT, ↓reduceIte, Int.natCast_add, Int.cast_ofNat_Int, Int.natCast_zero]) ?_
    exact ⟨by simp [List.replicate_succ], by simpa [names] using hN1⟩) ⟨0, by omega, by omega, by simp⟩ ?_
  rintro z τ ⟨j, hj, rfl, rfl⟩ lp hlp
  obtain ⟨r, hr⟩ : ∃ r, r = x.drop j := ⟨_, rfl⟩
  have hrl : r.length = x.length - j := by rw [hr, List.length_drop]
  obtain ⟨u, hu⟩ : ∃ u, u = t ++ x.take j := ⟨_, rfl⟩
  have hul : u.length = t.length + j := by rw [hu, List.length_append, List.length_take]; omega
  rw [← hr, ← hu]
  have hS := stS_len u
  have hQ := qOf_len u
  have hl3 := st3_len (n := u.length) hS hQ
  have hg3 := st3_n (n := u.length) hS hQ
  by_cases hre : r = []
  · have hjx : t ++ x = u := by
      rw [hu, List.take_of_length_le (by rw [hre] at hrl; simp only [List.length_nil] at hrl; omega)]
    have htz : List.drop 73 zs = [] := List.drop_of_length_le (by omega)
    have htu : List.take 73 (st3 (stS u) (qOf u) u.length) = st3 (stS u) (qOf u) u.length := List.take_of_length_le (by omega)
    have h1u := st3_one (S := stS u) (Q := qOf u) (n := u.length)
    repeat' (first
    | (with_reducible apply W_seq_k; intro nx hnx)
    | with_reducible apply W_block
    | with_reducible apply W_scope
    | (with_reducible refine W_prune 119 ?_; simp only [prune_cons, prune_nil, Nat.reducePow, Nat.reduceDiv, Nat.reduceMod, Nat.reduceBEq, cond_true, cond_false]; with_reducible apply W_region_l)
    | (with_reducible refine W_prune 119 ?_; simp only [prune_cons, prune_nil, Nat.reducePow, Nat.reduceDiv, Nat.reduceMod, Nat.reduceBEq, cond_true, cond_false]; with_reducible refine W_region_draw (id := 7) 1 (.op 0 true (.op 1 true (.op 2 true (.op 3 true (.op 4 true (.op 5 true (.op 6 false (.done)))))))) (by kernel_rfl) ?_)
    | ((first | (with_reducible apply WL_op; intro nx hnx) | with_reducible refine Ev_out ?_ | (with_reducible apply popsD_op; intro nx hnx) | (with_reducible refine popsD_alt ?_ ?_; intro nx hnx) | (with_reducible refine pfresh_k hnm fun nm hnm => ?_; (try simp only [List.forall_mem_cons, List.not_mem_nil, false_implies, implies_true, and_true, true_and, ne_eq] at hnm))); try (simp (maxSteps := 2000000) (disch := omega) only [evb, ↓popG_eq, ↓pop.eq_1, ↓List.getElem?_map, ↓List.getElem?_cons_zero, ↓List.getElem?_cons_succ, pbuiltin, opnd, constPV, PState.put, layFrom, List.set, pnck, seqK, blockK, scopeK, pbin, pun, ppick, plen, pldop, pload, pfaddr, piaddr, pindex, pfield, pslice, pbound, pconv, pelems, pextract, pmm, parr, pbuild, pfill, PV.mem?, PV.one, PV.cells, pageq, peqs, peq1, palloc, pbox, pbuildS, pmakes, pstore, pappend, pcopy, pbytes, pmark, psrc, vcells, Value.oneCell', look, upd, del, names, Nat.reduceAdd, Nat.reduceMul, Nat.reduceSub, Nat.reduceLeDiff, Nat.reduceEqDiff, ↓reduceIte, ne_eq, reduceCtorEq, forall_const, times, Value.cells, exists_and_left, exists_eq_left', eq_self, Nat.reduceLT, Int.reduceLT, Int.reduceLE, Int.reduceToNat, Int.reduceAdd, Int.reduceSub, Int.reduceNeg, hnm, Tryd.tf0, Tryd.tf1, Tryd.tf2, Tryd.tf3, Tryd.tf4, Tryd.tf5, Tryd.tf9, Tryd.teq30, Tryd.tf53, Tryd.teq57, Tryd.teq58, Tryd.tf78, Tryd.tf79, Tryd.teq79, Tryd.tf80, Tryd.teq80, Tryd.tf81, Tryd.tf83, Tryd.teq86, Tryd.teq88, Tryd.teq96, Tryd.teq98, Tryd.call65, hN1, hN3, hl3, hg3, hzl, htz, htu, h1u]); repeat (refine And.intro (by omega) ?_))
    | ((first | with_reducible apply WL_nil | with_reducible apply W_label | with_reducible apply W_skip | with_reducible apply W_exit | with_reducible apply W_ret | with_reducible apply popsD_done); try simp only [seqK, blockK, scopeK, ↓reduceIte, Nat.reduceEqDiff])
    | with_reducible exact popsD_stop
    | (with_reducible apply W_cond_k; intro _ _ ea eb; (simp only [condK, not_true_eq_false, not_false_eq_true, opnd, constPV, List.getD_cons_zero, List.getD_cons_succ, fr_getD_cons, fr_getD_nil, Nat.reduceEqDiff, Nat.reduceLT, ↓reduceIte, hcb, reduceCtorEq, false_implies, true_implies, forall_const, bne_iff_ne, beq_iff_eq, ne_eq]); subst ea eb; first | (refine ⟨fun hc => ?_, fun hc => ?_⟩ <;> first | (exfalso; omega) | (exfalso; exact hc trivial) | skip) | skip)
    | (with_reducible apply hnx; clear hnx nx)
    | (with_reducible refine And.intro (by omega) ?_)
    | (with_reducible refine And.intro ?_ ?_)
    | (clear hnx nx; with_reducible apply hnx; clear hnx nx)
    | (clear hnx nx; clear hnx nx; with_reducible apply hnx; clear hnx nx)
    | (clear hnx nx; clear hnx nx; clear hnx nx; with_reducible apply hnx; clear hnx nx))
    all_goals first
      | exact absurd hre ‹¬ r = []›
      | (exfalso
         omega)
      | skip
    refine hfin _ _ (Fin_cell (res := stP u) Tryd.tf83 (n := N4) (off := 0) (o := ⟨83, false, 0, stC u⟩) (by simp only [fr_getD_cons, Nat.reduceEqDiff, Nat.reduceLT, ↓reduceIte]) (by rw [stC_st3]; simp [look, hN1]) ?_ (Sub_nil _) ⟨by rw [hjx], rfl⟩)
    rw [stC_st3]
    simp only [pload, hl3, h1u]
    rw [if_pos trivial]
    refine ⟨by omega, ?_⟩
    rw [List.drop_zero, htu]
    exact congrArg PV.agg (stC_st3 u)
  · have hr0 : 0 < r.length := List.length_pos_iff.2 hre
    have tm : (u.length : Int).tmod 64 = ((u.length % 64 : Nat) : Int) := by rw [Int.tmod_eq_emod_of_nonneg (by omega)]; omega
    obtain ⟨a, ha⟩ : ∃ a, a = u.length % 64 := ⟨_, rfl⟩
    rw [← ha] at tm
    have ha64 : (64 - (a : Int)).toNat = 64 - a := by omega
    obtain ⟨k, hk⟩ : ∃ k, min r.length (64 - a) = k := ⟨_, rfl⟩
    have htr : List.take r.length r = r := List.take_length
    obtain ⟨v, hv⟩ : ∃ v, v = r.take k := ⟨_, rfl⟩
    have hvl : v.length = k := by rw [hv, List.length_take]; omega
    have hvb : List.take k (bytes r) = v.map pbyte := by
      rw [hv, List.map_take]
      rfl
    have hcp := st3_copy (n := u.length) hS hQ v a (by omega)
    rw [qOf_step u v a ha (by omega) (by omega), hvl] at hcp
    have huv : (u ++ v).length = u.length + k := by rw [List.length_append, hvl]
    have htk : u ++ v = t ++ x.take (j + k) := by
      rw [hu, hv, hr, List.append_assoc, ← List.take_add]
    have hkeep : ¬ a + k = 64 → stS (u ++ v) = stS u := fun h => stS_keep u v (by omega)
    have hstep : a + k = 64 → stS (u ++ v) = comp (stS u) (qOf (u ++ v)) := fun h => stS_step u v (by omega) (by omega)
    obtain ⟨y, hy⟩ : ∃ y, y = u ++ v := ⟨_, rfl⟩
    rw [← hy] at hcp huv htk hkeep hstep
    have hQ2 := qOf_len y
    have hg4 := st3_n (n := u.length) hS hQ2
    have hl4 := st3_len (n := u.length) hS hQ2
    have hwk : IntKind.u64.wrap (k : Int) = (k : Int) := wrn64 k (by omega)
    have hwn : IntKind.u64.wrap ((u.length : Int) + (k : Int)) = ((y.length : Nat) : Int) := by
      rw [huv, show (u.length : Int) + (k : Int) = ((u.length + k : Nat) : Int) by omega]
      exact wrn64 _ (by omega)
    have hsn := st3_setn (n := u.length) (n' := y.length) hS hQ2
    have hxd : r.drop k = x.drop (j + k) := by rw [hr, List.drop_drop]
    by_cases hf : a + k = 64
    · have hl5 := st3_len (n := y.length) hS hQ2
      have hcm := compress_c G hG (stS u) hS (qOf y) hQ2
      have hst5 := st3_state (S := stS u) (Q := qOf y) (n := y.length) hS
      repeat' (first
    | (with_reducible apply W_seq_k; intro nx hnx)
    | with_reducible apply W_block
    | with_reducible apply W_scope
    | (with_reducible refine W_prune 119 ?_; simp only [prune_cons, prune_nil, Nat.reducePow, Nat.reduceDiv, Nat.reduceMod, Nat.reduceBEq, cond_true, cond_false]; with_reducible apply W_region_l)
    | (with_reducible refine W_prune 119 ?_; simp only [prune_cons, prune_nil, Nat.reducePow, Nat.reduceDiv, Nat.reduceMod, Nat.reduceBEq, cond_true, cond_false]; with_reducible refine W_region_draw (id := 7) 1 (.op 0 true (.op 1 true (.op 2 true (.op 3 true (.op 4 true (.op 5 true (.op 6 false (.done)))))))) (by kernel_rfl) ?_)
    | ((first | (with_reducible apply WL_op; intro nx hnx) | with_reducible refine Ev_out ?_ | (with_reducible apply popsD_op; intro nx hnx) | (with_reducible refine popsD_alt ?_ ?_; intro nx hnx) | (with_reducible refine pfresh_k hnm fun nm hnm => ?_; (try simp only [List.forall_mem_cons, List.not_mem_nil, false_implies, implies_true, and_true, true_and, ne_eq] at hnm))); try (simp (maxSteps := 2000000) (disch := omega) only [evb, ↓popG_eq, ↓pop.eq_1, ↓List.getElem?_map, ↓List.getElem?_cons_zero, ↓List.getElem?_cons_succ, pbuiltin, opnd, constPV, PState.put, layFrom, List.set, pnck, seqK, blockK, scopeK, pbin, pun, ppick, plen, pldop, pload, pfaddr, piaddr, pindex, pfield, pslice, pbound, pconv, pelems, pextract, pmm, parr, pbuild, pfill, PV.mem?, PV.one, PV.cells, pageq, peqs, peq1, palloc, pbox, pbuildS, pmakes, pstore, pappend, pcopy, pbytes, pmark, psrc, vcells, Value.oneCell', look, upd, del, names, Nat.reduceAdd, Nat.reduceMul, Nat.reduceSub, Nat.reduceLeDiff, Nat.reduceEqDiff, ↓reduceIte, ne_eq, reduceCtorEq, forall_const, times, Value.cells, exists_and_left, exists_eq_left', eq_self, Nat.reduceLT, Int.reduceLT, Int.reduceLE, Int.reduceToNat, Int.reduceAdd, Int.reduceSub, Int.reduceNeg, hnm, Tryd.tf0, Tryd.tf1, Tryd.tf2, Tryd.tf3, Tryd.tf4, Tryd.tf5, Tryd.tf9, Tryd.teq30, Tryd.tf53, Tryd.teq57, Tryd.teq58, Tryd.tf78, Tryd.tf79, Tryd.teq79, Tryd.tf80, Tryd.teq80, Tryd.tf81, Tryd.tf83, Tryd.teq86, Tryd.teq88, Tryd.teq96, Tryd.teq98, Tryd.call65, hN1, hN3, hl3, hg3, hl4, hg4, hl5, tm, ha64, hk, htr, hvb, hcp, hwk, hwn, hsn, hst5]); repeat (refine And.intro (by omega) ?_))
    | ((first | with_reducible apply WL_nil | with_reducible apply W_label | with_reducible apply W_skip | with_reducible apply W_exit | with_reducible apply W_ret | with_reducible apply popsD_done); try simp only [seqK, blockK, scopeK, ↓reduceIte, Nat.reduceEqDiff])
    | with_reducible exact popsD_stop
    | (with_reducible apply W_cond_k; intro _ _ ea eb; (simp only [condK, not_true_eq_false, not_false_eq_true, opnd, constPV, List.getD_cons_zero, List.getD_cons_succ, fr_getD_cons, fr_getD_nil, Nat.reduceEqDiff, Nat.reduceLT, ↓reduceIte, hcb, reduceCtorEq, false_implies, true_implies, forall_const, bne_iff_ne, beq_iff_eq, ne_eq]); subst ea eb; first | (refine ⟨fun hc => ?_, fun hc => ?_⟩ <;> first | (exfalso; omega) | (exfalso; exact hc trivial) | skip) | skip)
    | (with_reducible apply hnx; clear hnx nx)
    | (with_reducible refine And.intro (by omega) ?_)
    | (with_reducible refine And.intro ?_ ?_)
    | (clear hnx nx; with_reducible apply hnx; clear hnx nx)
    | (clear hnx nx; clear hnx nx; with_reducible apply hnx; clear hnx nx)
    | (clear hnx nx; clear hnx nx; clear hnx nx; with_reducible apply hnx; clear hnx nx))
      all_goals first
        | exact absurd ‹r = []› hre
        | (exfalso
           omega)
        | skip
      have hdr := st3_drop (Q := qOf y) (n := y.length) hS
      have h1y := st3_one (S := stS u) (Q := qOf y) (n := y.length)
      have hel : elemsOf 1 (List.map pbyte (qOf y) ++ [pint .u64 y.length]) 64 = (qOf y).map pbyte := elemsOf_bytes hQ2 _
      have hss := st3_sets (S' := stS y) (Q := qOf y) (n := y.length) hS
      have hs8 : ((stS y).map pw).length = 8 := by rw [List.length_map, stS_len]
      refine pcall_lend N2 ⟨83, false, 0, st3 (stS u) (qOf y) y.length⟩ (by simp [look, hN1]) (R := fun res H => res = .agg ((comp (stS u) (qOf y)).map pw) ∧ H = []) ?_ ?_
      · simp only [List.map_cons, List.map_nil, frz1, ↓reduceIte, hl5, hdr, hel, Nat.one_mul, Nat.mul_one, Nat.reduceAdd, Nat.reduceLeDiff, Nat.zero_lt_one, and_self]
        exact hcm
      · rintro _ _ ⟨rfl, rfl⟩
        refine ⟨rfl, Flat_all (by
          intro c hc
          obtain ⟨w, _, rfl⟩ := List.mem_map.1 hc
          exact ⟨_, rfl⟩), ?_⟩
        rw [← hstep hf]
        refine Ev_in ?_
        repeat' (first
    | (with_reducible apply W_seq_k; intro nx hnx)
    | with_reducible apply W_block
    | with_reducible apply W_scope
    | (with_reducible refine W_prune 119 ?_; simp only [prune_cons, prune_nil, Nat.reducePow, Nat.reduceDiv, Nat.reduceMod, Nat.reduceBEq, cond_true, cond_false]; with_reducible apply W_region_l)
    | (with_reducible refine W_prune 119 ?_; simp only [prune_cons, prune_nil, Nat.reducePow, Nat.reduceDiv, Nat.reduceMod, Nat.reduceBEq, cond_true, cond_false]; with_reducible refine W_region_draw (id := 7) 1 (.op 0 true (.op 1 true (.op 2 true (.op 3 true (.op 4 true (.op 5 true (.op 6 false (.done)))))))) (by kernel_rfl) ?_)
    | ((first | (with_reducible apply WL_op; intro nx hnx) | with_reducible refine Ev_out ?_ | (with_reducible apply popsD_op; intro nx hnx) | (with_reducible refine popsD_alt ?_ ?_; intro nx hnx) | (with_reducible refine pfresh_k hnm fun nm hnm => ?_; (try simp only [List.forall_mem_cons, List.not_mem_nil, false_implies, implies_true, and_true, true_and, ne_eq] at hnm))); try (simp (maxSteps := 2000000) (disch := omega) only [evb, ↓popG_eq, ↓pop.eq_1, ↓List.getElem?_map, ↓List.getElem?_cons_zero, ↓List.getElem?_cons_succ, pbuiltin, opnd, constPV, PState.put, layFrom, List.set, pnck, seqK, blockK, scopeK, pbin, pun, ppick, plen, pldop, pload, pfaddr, piaddr, pindex, pfield, pslice, pbound, pconv, pelems, pextract, pmm, parr, pbuild, pfill, PV.mem?, PV.one, PV.cells, pageq, peqs, peq1, palloc, pbox, pbuildS, pmakes, pstore, pappend, pcopy, pbytes, pmark, psrc, vcells, Value.oneCell', look, upd, del, names, Nat.reduceAdd, Nat.reduceMul, Nat.reduceSub, Nat.reduceLeDiff, Nat.reduceEqDiff, ↓reduceIte, ne_eq, reduceCtorEq, forall_const, times, Value.cells, exists_and_left, exists_eq_left', eq_self, Nat.reduceLT, Int.reduceLT, Int.reduceLE, Int.reduceToNat, Int.reduceAdd, Int.reduceSub, Int.reduceNeg, hnm, Tryd.tf0, Tryd.tf1, Tryd.tf2, Tryd.tf3, Tryd.tf4, Tryd.tf5, Tryd.tf9, Tryd.teq30, Tryd.tf53, Tryd.teq57, Tryd.teq58, Tryd.tf78, Tryd.tf79, Tryd.teq79, Tryd.tf80, Tryd.teq80, Tryd.tf81, Tryd.tf83, Tryd.teq86, Tryd.teq88, Tryd.teq96, Tryd.teq98, Tryd.call65, hN1, hN3, hl3, hl4, hl5, hss, hs8, all_one_pw]); repeat (refine And.intro (by omega) ?_))
    | ((first | with_reducible apply WL_nil | with_reducible apply W_label | with_reducible apply W_skip | with_reducible apply W_exit | with_reducible apply W_ret | with_reducible apply popsD_done); try simp only [seqK, blockK, scopeK, ↓reduceIte, Nat.reduceEqDiff])
    | with_reducible exact popsD_stop
    | (with_reducible apply W_cond_k; intro _ _ ea eb; (simp only [condK, not_true_eq_false, not_false_eq_true, opnd, constPV, List.getD_cons_zero, List.getD_cons_succ, fr_getD_cons, fr_getD_nil, Nat.reduceEqDiff, Nat.reduceLT, ↓reduceIte, hcb, reduceCtorEq, false_implies, true_implies, forall_const, bne_iff_ne, beq_iff_eq, ne_eq]); subst ea eb; first | (refine ⟨fun hc => ?_, fun hc => ?_⟩ <;> first | (exfalso; omega) | (exfalso; exact hc trivial) | skip) | skip)
    | (with_reducible apply hnx; clear hnx nx)
    | (with_reducible refine And.intro (by omega) ?_)
    | (with_reducible refine And.intro ?_ ?_)
    | (clear hnx nx; with_reducible apply hnx; clear hnx nx)
    | (clear hnx nx; clear hnx nx; with_reducible apply hnx; clear hnx nx)
    | (clear hnx nx; clear hnx nx; clear hnx nx; with_reducible apply hnx; clear hnx nx))
        all_goals first
          | (exfalso
             omega)
          | (refine hlp _ (x.length - (j + k)) _ (by omega) ?_ ⟨j + k, by omega, rfl, rfl⟩
             rw [← htk, ← hxd]
             refine Wk_fr (by simp only [List.forall_mem_cons, List.not_mem_nil, false_implies, implies_true, and_true, true_and, and_self, fr_getD_cons, fr_getD_nil, Nat.reduceEqDiff, Nat.reduceLT, ↓reduceIte, Int.natCast_add, Int.cast_ofNat_Int, Int.natCast_zero]) ?_
             exact Sub_refl hnd)
          | skip
    · repeat' (first
    | (with_reducible apply W_seq_k; intro nx hnx)
    | with_reducible apply W_block
    | with_reducible apply W_scope
    | (with_reducible refine W_prune 119 ?_; simp only [prune_cons, prune_nil, Nat.reducePow, Nat.reduceDiv, Nat.reduceMod, Nat.reduceBEq, cond_true, cond_false]; with_reducible apply W_region_l)
    | (with_reducible refine W_prune 119 ?_; simp only [prune_cons, prune_nil, Nat.reducePow, Nat.reduceDiv, Nat.reduceMod, Nat.reduceBEq, cond_true, cond_false]; with_reducible refine W_region_draw (id := 7) 1 (.op 0 true (.op 1 true (.op 2 true (.op 3 true (.op 4 true (.op 5 true (.op 6 false (.done)))))))) (by kernel_rfl) ?_)
    | ((first | (with_reducible apply WL_op; intro nx hnx) | with_reducible refine Ev_out ?_ | (with_reducible apply popsD_op; intro nx hnx) | (with_reducible refine popsD_alt ?_ ?_; intro nx hnx) | (with_reducible refine pfresh_k hnm fun nm hnm => ?_; (try simp only [List.forall_mem_cons, List.not_mem_nil, false_implies, implies_true, and_true, true_and, ne_eq] at hnm))); try (simp (maxSteps := 2000000) (disch := omega) only [evb, ↓popG_eq, ↓pop.eq_1, ↓List.getElem?_map, ↓List.getElem?_cons_zero, ↓List.getElem?_cons_succ, pbuiltin, opnd, constPV, PState.put, layFrom, List.set, pnck, seqK, blockK, scopeK, pbin, pun, ppick, plen, pldop, pload, pfaddr, piaddr, pindex, pfield, pslice, pbound, pconv, pelems, pextract, pmm, parr, pbuild, pfill, PV.mem?, PV.one, PV.cells, pageq, peqs, peq1, palloc, pbox, pbuildS, pmakes, pstore, pappend, pcopy, pbytes, pmark, psrc, vcells, Value.oneCell', look, upd, del, names, Nat.reduceAdd, Nat.reduceMul, Nat.reduceSub, Nat.reduceLeDiff, Nat.reduceEqDiff, ↓reduceIte, ne_eq, reduceCtorEq, forall_const, times, Value.cells, exists_and_left, exists_eq_left', eq_self, Nat.reduceLT, Int.reduceLT, Int.reduceLE, Int.reduceToNat, Int.reduceAdd, Int.reduceSub, Int.reduceNeg, hnm, Tryd.tf0, Tryd.tf1, Tryd.tf2, Tryd.tf3, Tryd.tf4, Tryd.tf5, Tryd.tf9, Tryd.teq30, Tryd.tf53, Tryd.teq57, Tryd.teq58, Tryd.tf78, Tryd.tf79, Tryd.teq79, Tryd.tf80, Tryd.teq80, Tryd.tf81, Tryd.tf83, Tryd.teq86, Tryd.teq88, Tryd.teq96, Tryd.teq98, Tryd.call65, hN1, hN3, hl3, hg3, hl4, hg4, tm, ha64, hk, htr, hvb, hcp, hwk, hwn, hsn]); repeat (refine And.intro (by omega) ?_))
    | ((first | with_reducible apply WL_nil | with_reducible apply W_label | with_reducible apply W_skip | with_reducible apply W_exit | with_reducible apply W_ret | with_reducible apply popsD_done); try simp only [seqK, blockK, scopeK, ↓reduceIte, Nat.reduceEqDiff])
    | with_reducible exact popsD_stop
    | (with_reducible apply W_cond_k; intro _ _ ea eb; (simp only [condK, not_true_eq_false, not_false_eq_true, opnd, constPV, List.getD_cons_zero, List.getD_cons_succ, fr_getD_cons, fr_getD_nil, Nat.reduceEqDiff, Nat.reduceLT, ↓reduceIte, hcb, reduceCtorEq, false_implies, true_implies, forall_const, bne_iff_ne, beq_iff_eq, ne_eq]); subst ea eb; first | (refine ⟨fun hc => ?_, fun hc => ?_⟩ <;> first | (exfalso; omega) | (exfalso; exact hc trivial) | skip) | skip)
    | (with_reducible apply hnx; clear hnx nx)
    | (with_reducible refine And.intro (by omega) ?_)
    | (with_reducible refine And.intro ?_ ?_)
    | (clear hnx nx; with_reducible apply hnx; clear hnx nx)
    | (clear hnx nx; clear hnx nx; with_reducible apply hnx; clear hnx nx)
    | (clear hnx nx; clear hnx nx; clear hnx nx; with_reducible apply hnx; clear hnx nx))
      all_goals first
        | exact absurd ‹r = []› hre
        | (exfalso
           omega)
        | skip
      refine hlp _ (x.length - (j + k)) _ (by omega) ?_ ⟨j + k, by omega, rfl, rfl⟩
      rw [← htk, hkeep hf, ← hxd]
      refine Wk_fr (by simp only [List.forall_mem_cons, List.not_mem_nil, false_implies, implies_true, and_true, true_and, and_self, fr_getD_cons, fr_getD_nil, Nat.reduceEqDiff, Nat.reduceLT, ↓reduceIte, Int.natCast_add, Int.cast_ofNat_Int, Int.natCast_zero]) ?_
      exact Sub_refl hnd
end Go.PM

namespace Go.PM
open Go.Proofs
attribute [local irreducible] W PCalls pcall pcallI WL
theorem isByte_pb (l : List UInt8) : (l.map pbyte).all isByte = true := by
  rw [List.all_eq_true]
  intro p hp
  obtain ⟨b, _, rfl⟩ := List.mem_map.1 hp
  have := b.toNat_lt
  simp [isByte]
  omega
theorem unb_pb (l : List UInt8) : (l.map pbyte).map unb = l := bytes_unb l
theorem st3_get {S : List UInt32} {Q : List UInt8} {n : Nat} (hS : S.length = 8) (i : Nat) (h : i < 8) : (st3 S Q n)[i]? = some (pw (S.getD i 0)) := by
  have e : (List.take 8 (st3 S Q n))[i]? = some (pw (S.getD i 0)) := by
    rw [st3_state hS, List.getElem?_map, List.getElem?_eq_getElem (by omega), List.getD_eq_getElem?_getD, List.getElem?_eq_getElem (by omega)]
    rfl
  rwa [List.getElem?_take_of_lt h] at e
theorem st3_flat {S : List UInt32} {Q : List UInt8} {n : Nat} (m : Int) (cs : List PV) : ∀ u ∈ st3 S Q n, frz1 m cs u = u ∧ u.one = true := by
  intro u hu
  unfold st3 at hu
  rcases List.mem_append.1 hu with h | h
  · rcases List.mem_append.1 h with h | h
    · obtain ⟨x, _, rfl⟩ := List.mem_map.1 h
      exact ⟨rfl, rfl⟩
    · obtain ⟨x, _, rfl⟩ := List.mem_map.1 h
      exact ⟨rfl, rfl⟩
  · rw [List.mem_singleton.1 h]
    exact ⟨rfl, rfl⟩
theorem oC_flat {S : List UInt32} {i : Nat} (m : Int) (cs : List PV) : ∀ u ∈ oC S i, frz1 m cs u = u ∧ u.one = true := by
  intro u hu
  unfold oC tab at hu
  obtain ⟨x, _, rfl⟩ := List.mem_map.1 hu
  split <;> exact ⟨rfl, rfl⟩
theorem sha_blk (t : List UInt8) : sha t = outB (stS (t ++ padT t.length)) := by
  rw [sha, stS, List.length_append]
set_option maxRecDepth 100000 in
set_option maxHeartbeats 8000000 in
theorem ssum_c (G : Globs) (hG : G 1 = .iptr (KS.map pw) 0) (t : List UInt8) (hb : t.length ≤ 4294960000) : PCalls Tryd.prog G 58 [stP t] [] (fun res H => res = .agg ((sha t).map pbyte) ∧ H = []) := by
  have hz := zN_lt t.length
  have h128 : pint .u8 128 = pbyte 128 := rfl
  have h00 : pint .u8 0 = pbyte 0 := rfl
  have hS := stS_len t
  have hQ := qOf_len t
  have hl3 := st3_len (n := t.length) hS hQ
  have hg3 := st3_n (n := t.length) hS hQ
  have hone := st3_one (S := stS t) (Q := qOf t) (n := t.length)
  have hadd := add_c G hG t (padT t.length) (by rw [padT_len]; omega)
  have hsha := sha_blk t
  unfold stP at hadd ⊢
  rw [stC_st3 t] at hadd ⊢
  have hw1 : IntKind.u64.wrap (8 * (t.length : Int)) = ((8 * t.length : Nat) : Int) := by
    rw [show 8 * (t.length : Int) = ((8 * t.length : Nat) : Int) by omega]
    exact wrn64 _ (by omega)
  obtain ⟨m, hm⟩ : ∃ m, m = 8 * t.length := ⟨_, rfl⟩
  rw [← hm] at hw1
  obtain ⟨S, hSd⟩ : ∃ S, S = stS (t ++ padT t.length) := ⟨_, rfl⟩
  (refine PCalls_f Tryd.func58 rfl Tryd.ntmps58 Tryd.results58 (by simp) fun fin hfin => ?_; have hnm : True := trivial; simp (maxSteps := 2000000) (disch := omega) only [evb, ↓popG_eq, ↓pop.eq_1, ↓List.getElem?_map, ↓List.getElem?_cons_zero, ↓List.getElem?_cons_succ, pbuiltin, opnd, constPV, PState.put, layFrom, List.set, pnck, seqK, blockK, scopeK, pbin, pun, ppick, plen, pldop, pload, pfaddr, piaddr, pindex, pfield, pslice, pbound, pconv, pelems, pextract, pmm, parr, pbuild, pfill, PV.mem?, PV.one, PV.cells, pageq, peqs, peq1, palloc, pbox, pbuildS, pmakes, pstore, pappend, pcopy, pbytes, pmark, psrc, vcells, Value.oneCell', look, upd, del, names, Nat.reduceAdd, Nat.reduceMul, Nat.reduceSub, Nat.reduceLeDiff, Nat.reduceEqDiff, ↓reduceIte, ne_eq, reduceCtorEq, forall_const, times, Value.cells, exists_and_left, exists_eq_left', eq_self, Nat.reduceLT, Int.reduceLT, Int.reduceLE, Int.reduceToNat, Int.reduceAdd, Int.reduceSub, Int.reduceNeg, hnm, Tryd.tf0, Tryd.tf1, Tryd.tf2, Tryd.tf3, Tryd.tf4, Tryd.tf5, Tryd.tf9, Tryd.teq30, Tryd.tf53, Tryd.teq57, Tryd.teq58, Tryd.tf78, Tryd.tf79, Tryd.teq79, Tryd.teq80, Tryd.tf81, Tryd.tf83, Tryd.tf86, Tryd.teq86, Tryd.teq88, Tryd.teq96, Tryd.teq98, Tryd.call57])
  repeat' (first
    | (with_reducible apply W_seq_k; intro nx hnx)
    | with_reducible apply W_block
    | with_reducible apply W_scope
    | (with_reducible refine W_prune 1099520016639 ?_; simp only [prune_cons, prune_nil, Nat.reducePow, Nat.reduceDiv, Nat.reduceMod, Nat.reduceBEq, cond_true, cond_false]; with_reducible apply W_region_l)
    | ((first | (with_reducible apply WL_op; intro nx hnx) | with_reducible refine Ev_out ?_ | (with_reducible refine pfresh_k hnm fun nm hnm => ?_; (try simp only [List.forall_mem_cons, List.not_mem_nil, false_implies, implies_true, and_true, true_and, ne_eq] at hnm))); try (simp (maxSteps := 2000000) (disch := omega) only [evb, ↓popG_eq, ↓pop.eq_1, ↓List.getElem?_map, ↓List.getElem?_cons_zero, ↓List.getElem?_cons_succ, pbuiltin, opnd, constPV, PState.put, layFrom, List.set, pnck, seqK, blockK, scopeK, pbin, pun, ppick, plen, pldop, pload, pfaddr, piaddr, pindex, pfield, pslice, pbound, pconv, pelems, pextract, pmm, parr, pbuild, pfill, PV.mem?, PV.one, PV.cells, pageq, peqs, peq1, palloc, pbox, pbuildS, pmakes, pstore, pappend, pcopy, pbytes, pmark, psrc, vcells, Value.oneCell', look, upd, del, names, Nat.reduceAdd, Nat.reduceMul, Nat.reduceSub, Nat.reduceLeDiff, Nat.reduceEqDiff, ↓reduceIte, ne_eq, reduceCtorEq, forall_const, times, Value.cells, exists_and_left, exists_eq_left', eq_self, Nat.reduceLT, Int.reduceLT, Int.reduceLE, Int.reduceToNat, Int.reduceAdd, Int.reduceSub, Int.reduceNeg, hnm, Tryd.tf0, Tryd.tf1, Tryd.tf2, Tryd.tf3, Tryd.tf4, Tryd.tf5, Tryd.tf9, Tryd.teq30, Tryd.tf53, Tryd.teq57, Tryd.teq58, Tryd.tf78, Tryd.tf79, Tryd.teq79, Tryd.teq80, Tryd.tf81, Tryd.tf83, Tryd.tf86, Tryd.teq86, Tryd.teq88, Tryd.teq96, Tryd.teq98, Tryd.call57, hl3, hone, hg3, hw1]); repeat (refine And.intro (by omega) ?_))
    | ((first | with_reducible apply WL_nil | with_reducible apply W_label | with_reducible apply W_skip | with_reducible apply W_exit | with_reducible apply W_ret); try simp only [seqK, blockK, scopeK, ↓reduceIte, Nat.reduceEqDiff])
    | (with_reducible apply W_cond_k; intro _ _ ea eb; (simp only [condK, not_true_eq_false, not_false_eq_true, opnd, constPV, List.getD_cons_zero, List.getD_cons_succ, fr_getD_cons, fr_getD_nil, Nat.reduceEqDiff, Nat.reduceLT, ↓reduceIte, hcb, reduceCtorEq, false_implies, true_implies, forall_const, bne_iff_ne, beq_iff_eq, ne_eq]); subst ea eb; first | (refine ⟨fun hc => ?_, fun hc => ?_⟩ <;> first | (exfalso; omega) | (exfalso; exact hc trivial) | skip) | skip)
    | (with_reducible apply hnx; clear hnx nx)
    | (with_reducible refine And.intro (by omega) ?_)
    | (with_reducible refine And.intro ?_ ?_)
    | (clear hnx nx; with_reducible apply hnx; clear hnx nx)
    | (clear hnx nx; clear hnx nx; with_reducible apply hnx; clear hnx nx)
    | (clear hnx nx; clear hnx nx; clear hnx nx; with_reducible apply hnx; clear hnx nx))
  rename_i N1 _ N2 _
  refine W_loop_k (fun k τ => ∃ (z : Nat) (N : Int) (o : List UInt8), z ≤ zN t.length ∧ k = zN t.length - z ∧ o = 128 :: List.replicate z 0 ∧ [N, N2, N1].Nodup ∧ τ = ⟨fr 58 [(1, .ptr N1 0), (2, .ptr N2 0), (3, pint .u64 m), (4, .row N 1 o.length)], [(N, ⟨5, true, 1, o.map pbyte⟩), (N2, ⟨86, false, 0, oC S 0⟩), (N1, ⟨83, false, 0, st3 (stS t) (qOf t) t.length⟩)]⟩) (zN t.length)
    ⟨fr 58 [(1, .ptr N1 0), (2, .ptr N2 0), (3, pint .u64 m), (4, .row nm 1 1)], [(nm, ⟨5, true, 1, [128].map pbyte⟩), (N2, ⟨86, false, 0, oC S 0⟩), (N1, ⟨83, false, 0, st3 (stS t) (qOf t) t.length⟩)]⟩ (by
    rw [oC_zero]
    refine Wk_fr (by simp only [List.forall_mem_cons, List.not_mem_nil, false_implies, implies_true, and_true, true_and, and_self, fr_getD_cons, fr_getD_nil, Nat.reduceEqDiff, Nat.reduceLT, ↓reduceIte, Int.natCast_add, Int.cast_ofNat_Int, Int.natCast_zero]) ?_
    exact ⟨by simp, by simp [names, hnm]⟩) ⟨0, nm, [128], by omega, by omega, rfl, by simp [hnm], rfl⟩ ?_
  rintro k τ ⟨z, N, o, hzz, rfl, ho, hnd, rfl⟩ lp hlp
  clear hnm
  have hnd0 := hnd
  simp only [List.nodup_cons, List.mem_cons, List.not_mem_nil, or_false, not_or, List.nodup_nil, and_true, not_false_eq_true] at hnd
  have hnm : ((¬ N = N2 ∧ ¬ N2 = N) ∧ ¬ N = N1 ∧ ¬ N1 = N) ∧ ¬ N2 = N1 ∧ ¬ N1 = N2 := ⟨⟨⟨hnd.1.1, fun e => hnd.1.1 e.symm⟩, hnd.1.2, fun e => hnd.1.2 e.symm⟩, hnd.2, fun e => hnd.2 e.symm⟩
  have hol : o.length = 1 + z := by
    rw [ho]
    simp
    omega
  have htm : ((t.length : Int) + (o.length : Int)).tmod 64 = (((t.length + o.length) % 64 : Nat) : Int) := by rw [Int.tmod_eq_emod_of_nonneg (by omega)]; omega
  by_cases hst : (t.length + 1 + z) % 64 = 56
  · have hze := zN_stop _ _ hzz hst
    have hs2 : (t.length + o.length) % 64 = 56 := by rw [hol, ← Nat.add_assoc]; exact hst
    repeat' (first
    | (with_reducible apply W_seq_k; intro nx hnx)
    | with_reducible apply W_block
    | with_reducible apply W_scope
    | (with_reducible refine W_prune 1099520016639 ?_; simp only [prune_cons, prune_nil, Nat.reducePow, Nat.reduceDiv, Nat.reduceMod, Nat.reduceBEq, cond_true, cond_false]; with_reducible apply W_region_l)
    | ((first | (with_reducible apply WL_op; intro nx hnx) | with_reducible refine Ev_out ?_ | (with_reducible refine pfresh_k hnm fun nm hnm => ?_; (try simp only [List.forall_mem_cons, List.not_mem_nil, false_implies, implies_true, and_true, true_and, ne_eq] at hnm))); try (simp (maxSteps := 2000000) (disch := omega) only [evb, ↓popG_eq, ↓pop.eq_1, ↓List.getElem?_map, ↓List.getElem?_cons_zero, ↓List.getElem?_cons_succ, pbuiltin, opnd, constPV, PState.put, layFrom, List.set, pnck, seqK, blockK, scopeK, pbin, pun, ppick, plen, pldop, pload, pfaddr, piaddr, pindex, pfield, pslice, pbound, pconv, pelems, pextract, pmm, parr, pbuild, pfill, PV.mem?, PV.one, PV.cells, pageq, peqs, peq1, palloc, pbox, pbuildS, pmakes, pstore, pappend, pcopy, pbytes, pmark, psrc, vcells, Value.oneCell', look, upd, del, names, Nat.reduceAdd, Nat.reduceMul, Nat.reduceSub, Nat.reduceLeDiff, Nat.reduceEqDiff, ↓reduceIte, ne_eq, reduceCtorEq, forall_const, times, Value.cells, exists_and_left, exists_eq_left', eq_self, Nat.reduceLT, Int.reduceLT, Int.reduceLE, Int.reduceToNat, Int.reduceAdd, Int.reduceSub, Int.reduceNeg, hnm, Tryd.tf0, Tryd.tf1, Tryd.tf2, Tryd.tf3, Tryd.tf4, Tryd.tf5, Tryd.tf9, Tryd.teq30, Tryd.tf53, Tryd.teq57, Tryd.teq58, Tryd.tf78, Tryd.tf79, Tryd.teq79, Tryd.teq80, Tryd.tf81, Tryd.tf83, Tryd.tf86, Tryd.teq86, Tryd.teq88, Tryd.teq96, Tryd.teq98, Tryd.call57, hl3, hg3, htm, hs2]); repeat (refine And.intro (by omega) ?_))
    | ((first | with_reducible apply WL_nil | with_reducible apply W_label | with_reducible apply W_skip | with_reducible apply W_exit | with_reducible apply W_ret); try simp only [seqK, blockK, scopeK, ↓reduceIte, Nat.reduceEqDiff])
    | (with_reducible apply W_cond_k; intro _ _ ea eb; (simp only [condK, not_true_eq_false, not_false_eq_true, opnd, constPV, List.getD_cons_zero, List.getD_cons_succ, fr_getD_cons, fr_getD_nil, Nat.reduceEqDiff, Nat.reduceLT, ↓reduceIte, hcb, reduceCtorEq, false_implies, true_implies, forall_const, bne_iff_ne, beq_iff_eq, ne_eq]); subst ea eb; first | (refine ⟨fun hc => ?_, fun hc => ?_⟩ <;> first | (exfalso; omega) | (exfalso; exact hc trivial) | skip) | skip)
    | (with_reducible apply hnx; clear hnx nx)
    | (with_reducible refine And.intro (by omega) ?_)
    | (with_reducible refine And.intro ?_ ?_)
    | (clear hnx nx; with_reducible apply hnx; clear hnx nx)
    | (clear hnx nx; clear hnx nx; with_reducible apply hnx; clear hnx nx)
    | (clear hnx nx; clear hnx nx; clear hnx nx; with_reducible apply hnx; clear hnx nx))
    all_goals first
      | (exfalso
         omega)
      | skip
    refine W_loop_k (fun k τ => ∃ (i : Nat) (N : Int) (u : List UInt8), i ≤ 8 ∧ k = 8 - i ∧ u = o ++ (be8 m).take i ∧ [N, N2, N1].Nodup ∧ τ = ⟨fr 58 [(1, .ptr N1 0), (2, .ptr N2 0), (3, pint .u64 m), (4, .row N 1 u.length), (23, pint .i64 i)], [(N, ⟨5, true, 1, u.map pbyte⟩), (N2, ⟨86, false, 0, oC S 0⟩), (N1, ⟨83, false, 0, st3 (stS t) (qOf t) t.length⟩)]⟩) 8
      ⟨fr 58 [(1, .ptr N1 0), (2, .ptr N2 0), (3, pint .u64 m), (4, .row N 1 o.length), (23, pint .i64 (0 : Nat))], [(N, ⟨5, true, 1, o.map pbyte⟩), (N2, ⟨86, false, 0, oC S 0⟩), (N1, ⟨83, false, 0, st3 (stS t) (qOf t) t.length⟩)]⟩ (by
      refine Wk_fr (by simp only [List.forall_mem_cons, List.not_mem_nil, false_implies, implies_true, and_true, true_and, and_self, fr_getD_cons, fr_getD_nil, Nat.reduceEqDiff, Nat.reduceLT, ↓reduceIte, Int.natCast_add, Int.cast_ofNat_Int, Int.natCast_zero]) ?_
      exact Sub_refl hnd0) ⟨0, N, o, by omega, by omega, by simp, hnd0, rfl⟩ ?_
    clear hnm hnd hnd0 htm hs2 hlp lp
    rintro k τ ⟨i, N, u, hi, rfl, hu, hnd, rfl⟩ lp2 hlp2
    have hnd0 := hnd
    simp only [List.nodup_cons, List.mem_cons, List.not_mem_nil, or_false, not_or, List.nodup_nil, and_true, not_false_eq_true] at hnd
    have hnm : ((¬ N = N2 ∧ ¬ N2 = N) ∧ ¬ N = N1 ∧ ¬ N1 = N) ∧ ¬ N2 = N1 ∧ ¬ N1 = N2 := ⟨⟨⟨hnd.1.1, fun e => hnd.1.1 e.symm⟩, hnd.1.2, fun e => hnd.1.2 e.symm⟩, hnd.2, fun e => hnd.2 e.symm⟩
    have hul : u.length = 1 + z + i := by
      rw [hu]
      simp [be8_len, hol]
      omega
    by_cases hi8 : i < 8
    · have hsh := shr8 m (56 - 8 * (i : Int)) (7 - i) (by omega) (by omega)
      have hby := byte_mod (m / 256 ^ (7 - i))
      have htk := be8_take m i hi8
      repeat' (first
    | (with_reducible apply W_seq_k; intro nx hnx)
    | with_reducible apply W_block
    | with_reducible apply W_scope
    | (with_reducible refine W_prune 1099520016639 ?_; simp only [prune_cons, prune_nil, Nat.reducePow, Nat.reduceDiv, Nat.reduceMod, Nat.reduceBEq, cond_true, cond_false]; with_reducible apply W_region_l)
    | ((first | (with_reducible apply WL_op; intro nx hnx) | with_reducible refine Ev_out ?_ | (with_reducible refine pfresh_k hnm fun nm hnm => ?_; (try simp only [List.forall_mem_cons, List.not_mem_nil, false_implies, implies_true, and_true, true_and, ne_eq] at hnm))); try (simp (maxSteps := 2000000) (disch := omega) only [evb, ↓popG_eq, ↓pop.eq_1, ↓List.getElem?_map, ↓List.getElem?_cons_zero, ↓List.getElem?_cons_succ, pbuiltin, opnd, constPV, PState.put, layFrom, List.set, pnck, seqK, blockK, scopeK, pbin, pun, ppick, plen, pldop, pload, pfaddr, piaddr, pindex, pfield, pslice, pbound, pconv, pelems, pextract, pmm, parr, pbuild, pfill, PV.mem?, PV.one, PV.cells, pageq, peqs, peq1, palloc, pbox, pbuildS, pmakes, pstore, pappend, pcopy, pbytes, pmark, psrc, vcells, Value.oneCell', look, upd, del, names, Nat.reduceAdd, Nat.reduceMul, Nat.reduceSub, Nat.reduceLeDiff, Nat.reduceEqDiff, ↓reduceIte, ne_eq, reduceCtorEq, forall_const, times, Value.cells, exists_and_left, exists_eq_left', eq_self, Nat.reduceLT, Int.reduceLT, Int.reduceLE, Int.reduceToNat, Int.reduceAdd, Int.reduceSub, Int.reduceNeg, hnm, Tryd.tf0, Tryd.tf1, Tryd.tf2, Tryd.tf3, Tryd.tf4, Tryd.tf5, Tryd.tf9, Tryd.teq30, Tryd.tf53, Tryd.teq57, Tryd.teq58, Tryd.tf78, Tryd.tf79, Tryd.teq79, Tryd.teq80, Tryd.tf81, Tryd.tf83, Tryd.tf86, Tryd.teq86, Tryd.teq88, Tryd.teq96, Tryd.teq98, Tryd.call57, hsh, hby]); repeat (refine And.intro (by omega) ?_))
    | ((first | with_reducible apply WL_nil | with_reducible apply W_label | with_reducible apply W_skip | with_reducible apply W_exit | with_reducible apply W_ret); try simp only [seqK, blockK, scopeK, ↓reduceIte, Nat.reduceEqDiff])
    | (with_reducible apply W_cond_k; intro _ _ ea eb; (simp only [condK, not_true_eq_false, not_false_eq_true, opnd, constPV, List.getD_cons_zero, List.getD_cons_succ, fr_getD_cons, fr_getD_nil, Nat.reduceEqDiff, Nat.reduceLT, ↓reduceIte, hcb, reduceCtorEq, false_implies, true_implies, forall_const, bne_iff_ne, beq_iff_eq, ne_eq]); subst ea eb; first | (refine ⟨fun hc => ?_, fun hc => ?_⟩ <;> first | (exfalso; omega) | (exfalso; exact hc trivial) | skip) | skip)
    | (with_reducible apply hnx; clear hnx nx)
    | (with_reducible refine And.intro (by omega) ?_)
    | (with_reducible refine And.intro ?_ ?_)
    | (clear hnx nx; with_reducible apply hnx; clear hnx nx)
    | (clear hnx nx; clear hnx nx; with_reducible apply hnx; clear hnx nx)
    | (clear hnx nx; clear hnx nx; clear hnx nx; with_reducible apply hnx; clear hnx nx))
      all_goals first
        | (exfalso
           omega)
        | (refine hlp2 _ (8 - (i + 1)) _ (by omega) ?_ ⟨i + 1, nm, u ++ [UInt8.ofNat (m / 256 ^ (7 - i) % 256)], by omega, rfl, by rw [hu, htk, List.append_assoc], by simp [hnm], rfl⟩
           rw [List.length_append, List.map_append]
           refine Wk_fr (by simp only [List.forall_mem_cons, List.not_mem_nil, false_implies, implies_true, and_true, true_and, and_self, fr_getD_cons, fr_getD_nil, Nat.reduceEqDiff, Nat.reduceLT, ↓reduceIte, Int.natCast_add, Int.cast_ofNat_Int, Int.natCast_zero, List.length_cons, List.length_nil, Nat.zero_add]) ?_
           exact ⟨by simp, by simp [names, hnm]⟩)
    · have hi9 : i = 8 := by omega
      subst hi9
      have hfu : u = padT t.length := by
        rw [hu, ho, hze, List.take_of_length_le (by rw [be8_len]; omega), padT, hm]
        rfl
      have hb1 := isByte_pb u
      have hb2 := unb_pb u
      have htu : List.take u.length (u.map pbyte) = u.map pbyte := List.take_of_length_le (by simp)
      have h1t := st3_one (S := stS t) (Q := qOf t) (n := t.length)
      have ht73 : List.take 73 (st3 (stS t) (qOf t) t.length) = st3 (stS t) (qOf t) t.length := List.take_of_length_le (by omega)
      have hd73 : List.drop 73 (st3 (stS t) (qOf t) t.length) = [] := List.drop_of_length_le (by omega)
      rw [← hfu, stC_st3] at hadd
      rw [← hfu] at hSd
      obtain ⟨y, hy⟩ : ∃ y, y = t ++ u := ⟨_, rfl⟩
      rw [← hy] at hadd hSd
      have hSy := stS_len y
      have hQy := qOf_len y
      have hl4 := st3_len (n := y.length) hSy hQy
      have h1y := st3_one (S := stS y) (Q := qOf y) (n := y.length)
      have hy73 : List.take 73 (st3 (stS y) (qOf y) y.length) = st3 (stS y) (qOf y) y.length := List.take_of_length_le (by omega)
      refine W_x (τ := ⟨fr 58 [(4, .list 1 (u.map pbyte)), (1, .ptr N1 0), (2, .ptr N2 0), (3, pint .u64 m), (23, pint .i64 (8 : Nat))], [(N2, ⟨86, false, 0, oC S 0⟩), (N1, ⟨83, false, 0, st3 (stS t) (qOf t) t.length⟩)]⟩) (Wx.trans (Wx.of_wk (τ := ⟨fr 58 [(4, .row N 1 u.length), (1, .ptr N1 0), (2, .ptr N2 0), (3, pint .u64 m), (23, pint .i64 (8 : Nat))], [(N, ⟨5, true, 1, u.map pbyte⟩), (N2, ⟨86, false, 0, oC S 0⟩), (N1, ⟨83, false, 0, st3 (stS t) (qOf t) t.length⟩)]⟩) (by
        refine Wk_fr (by simp only [List.forall_mem_cons, List.not_mem_nil, false_implies, implies_true, and_true, true_and, and_self, fr_getD_cons, fr_getD_nil, Nat.reduceEqDiff, Nat.reduceLT, ↓reduceIte, Int.natCast_add, Int.cast_ofNat_Int, Int.natCast_zero]) ?_
        exact Sub_refl hnd0)) (by
        have hw := Wx_bornH (G := G) (I := []) (N := 58) (d := 4) (L := [(1, .ptr N1 0), (2, .ptr N2 0), (3, pint .u64 m), (23, pint .i64 (8 : Nat))]) (n := N) (e := 5) (es := 1) (len := u.length) (cells := u.map pbyte) (H := [(N2, ⟨86, false, 0, oC S 0⟩), (N1, ⟨83, false, 0, st3 (stS t) (qOf t) t.length⟩)]) (by simp) (by simp) (by simp [frz, frz1, hnm]) (by
          simp only [List.forall_mem_cons, List.not_mem_nil, false_implies, implies_true, and_true]
          exact ⟨⟨by simp [hnm], oC_flat N _⟩, by simp [hnm], st3_flat N _⟩)
        rwa [elemsOf_one (by simp), htu] at hw)) ?_
      repeat' (first
    | (with_reducible apply W_seq_k; intro nx hnx)
    | with_reducible apply W_block
    | with_reducible apply W_scope
    | (with_reducible refine W_prune 1099520016639 ?_; simp only [prune_cons, prune_nil, Nat.reducePow, Nat.reduceDiv, Nat.reduceMod, Nat.reduceBEq, cond_true, cond_false]; with_reducible apply W_region_l)
    | ((first | (with_reducible apply WL_op; intro nx hnx) | with_reducible refine Ev_out ?_ | (with_reducible refine pfresh_k hnm fun nm hnm => ?_; (try simp only [List.forall_mem_cons, List.not_mem_nil, false_implies, implies_true, and_true, true_and, ne_eq] at hnm))); try (simp (maxSteps := 2000000) (disch := omega) only [evb, ↓popG_eq, ↓pop.eq_1, ↓List.getElem?_map, ↓List.getElem?_cons_zero, ↓List.getElem?_cons_succ, pbuiltin, opnd, constPV, PState.put, layFrom, List.set, pnck, seqK, blockK, scopeK, pbin, pun, ppick, plen, pldop, pload, pfaddr, piaddr, pindex, pfield, pslice, pbound, pconv, pelems, pextract, pmm, parr, pbuild, pfill, PV.mem?, PV.one, PV.cells, pageq, peqs, peq1, palloc, pbox, pbuildS, pmakes, pstore, pappend, pcopy, pbytes, pmark, psrc, vcells, Value.oneCell', look, upd, del, names, Nat.reduceAdd, Nat.reduceMul, Nat.reduceSub, Nat.reduceLeDiff, Nat.reduceEqDiff, ↓reduceIte, ne_eq, reduceCtorEq, forall_const, times, Value.cells, exists_and_left, exists_eq_left', eq_self, Nat.reduceLT, Int.reduceLT, Int.reduceLE, Int.reduceToNat, Int.reduceAdd, Int.reduceSub, Int.reduceNeg, hnm, Tryd.tf0, Tryd.tf1, Tryd.tf2, Tryd.tf3, Tryd.tf4, Tryd.tf5, Tryd.tf9, Tryd.teq30, Tryd.tf53, Tryd.teq57, Tryd.teq58, Tryd.tf78, Tryd.tf79, Tryd.teq79, Tryd.teq80, Tryd.tf81, Tryd.tf83, Tryd.tf86, Tryd.teq86, Tryd.teq88, Tryd.teq96, Tryd.teq98, Tryd.call57, hl3, hb1, hb2, htu, h1t, ht73, hd73, hl4, h1y, hy73]); repeat (refine And.intro (by omega) ?_))
    | ((first | with_reducible apply WL_nil | with_reducible apply W_label | with_reducible apply W_skip | with_reducible apply W_exit | with_reducible apply W_ret); try simp only [seqK, blockK, scopeK, ↓reduceIte, Nat.reduceEqDiff])
    | (with_reducible apply W_cond_k; intro _ _ ea eb; (simp only [condK, not_true_eq_false, not_false_eq_true, opnd, constPV, List.getD_cons_zero, List.getD_cons_succ, fr_getD_cons, fr_getD_nil, Nat.reduceEqDiff, Nat.reduceLT, ↓reduceIte, hcb, reduceCtorEq, false_implies, true_implies, forall_const, bne_iff_ne, beq_iff_eq, ne_eq]); subst ea eb; first | (refine ⟨fun hc => ?_, fun hc => ?_⟩ <;> first | (exfalso; omega) | (exfalso; exact hc trivial) | skip) | skip)
    | (with_reducible apply hnx; clear hnx nx)
    | (with_reducible refine And.intro (by omega) ?_)
    | (with_reducible refine And.intro ?_ ?_)
    | (with_reducible refine pcall_k (hadd) ?_; rintro _ _ ⟨rfl, rfl⟩ -; refine Ev_in ?_)
    | (clear hnx nx; with_reducible apply hnx; clear hnx nx)
    | (clear hnx nx; clear hnx nx; with_reducible apply hnx; clear hnx nx)
    | (clear hnx nx; clear hnx nx; clear hnx nx; with_reducible apply hnx; clear hnx nx))
      all_goals first
        | exact rfl
        | (exfalso
           omega)
        | skip
      have hsy : sha t = outB (stS y) := by rw [hy, hfu]; exact hsha
      rw [← hSd] at *
      clear hnd hnd0 lp2 hlp2
      have hnd : [nm, N2, N1].Nodup := by simp [hnm]
      refine W_loop_k (fun z τ => ∃ j : Nat, j ≤ 32 ∧ z = 32 - j ∧ τ = ⟨fr 58 [(40, pint .i64 j), (6, .ptr nm 0), (2, .ptr N2 0), (1, .ptr N1 0)], [(nm, ⟨86, false, 0, oC S j⟩), (N2, ⟨86, false, 0, oC S 0⟩), (N1, ⟨83, false, 0, st3 S (qOf y) y.length⟩)]⟩) 32
        ⟨fr 58 [(40, pint .i64 (0 : Nat)), (6, .ptr nm 0), (2, .ptr N2 0), (1, .ptr N1 0)], [(nm, ⟨86, false, 0, oC S 0⟩), (N2, ⟨86, false, 0, oC S 0⟩), (N1, ⟨83, false, 0, st3 S (qOf y) y.length⟩)]⟩ (by
        rw [oC_zero]
        refine Wk_fr (by simp only [List.forall_mem_cons, List.not_mem_nil, false_implies, implies_true, and_true, true_and, and_self, fr_getD_cons, fr_getD_nil, Nat.reduceEqDiff, Nat.reduceLT, ↓reduceIte, Int.natCast_add, Int.cast_ofNat_Int, Int.natCast_zero]) ?_
        exact Sub_refl hnd) ⟨0, by omega, by omega, rfl⟩ ?_
      rintro z τ ⟨j, hj, rfl, rfl⟩ lp hlp
      have hcl := oC_len S j
      have hcl0 := oC_len S 0
      by_cases hj2 : j < 32
      · have td : (j : Int).tdiv 4 = ((j / 4 : Nat) : Int) := by rw [Int.tdiv_eq_ediv_of_nonneg (by omega)]; omega
        have tm : (j : Int).tmod 4 = ((j % 4 : Nat) : Int) := by rw [Int.tmod_eq_emod_of_nonneg (by omega)]; omega
        have hg := st3_get (Q := qOf y) (n := y.length) hSy (j / 4) (by omega)
        obtain ⟨x, hx⟩ : ∃ x, x = S.getD (j / 4) 0 := ⟨_, rfl⟩
        rw [← hx] at hg
        have hsh := shr4 x.toNat (24 - 8 * ((j % 4 : Nat) : Int)) (3 - j % 4) (by omega) (by omega)
        have hby := byte_mod (x.toNat / 256 ^ (3 - j % 4))
        have hob : UInt8.ofNat (x.toNat / 256 ^ (3 - j % 4) % 256) = oB S j := by rw [oB, ← hx]
        rw [hob] at hby
        have hset := oC_set S j hj2
        repeat' (first
    | (with_reducible apply W_seq_k; intro nx hnx)
    | with_reducible apply W_block
    | with_reducible apply W_scope
    | (with_reducible refine W_prune 1099520016639 ?_; simp only [prune_cons, prune_nil, Nat.reducePow, Nat.reduceDiv, Nat.reduceMod, Nat.reduceBEq, cond_true, cond_false]; with_reducible apply W_region_l)
    | ((first | (with_reducible apply WL_op; intro nx hnx) | with_reducible refine Ev_out ?_ | (with_reducible refine pfresh_k hnm fun nm hnm => ?_; (try simp only [List.forall_mem_cons, List.not_mem_nil, false_implies, implies_true, and_true, true_and, ne_eq] at hnm))); try (simp (maxSteps := 2000000) (disch := omega) only [evb, ↓popG_eq, ↓pop.eq_1, ↓List.getElem?_map, ↓List.getElem?_cons_zero, ↓List.getElem?_cons_succ, pbuiltin, opnd, constPV, PState.put, layFrom, List.set, pnck, seqK, blockK, scopeK, pbin, pun, ppick, plen, pldop, pload, pfaddr, piaddr, pindex, pfield, pslice, pbound, pconv, pelems, pextract, pmm, parr, pbuild, pfill, PV.mem?, PV.one, PV.cells, pageq, peqs, peq1, palloc, pbox, pbuildS, pmakes, pstore, pappend, pcopy, pbytes, pmark, psrc, vcells, Value.oneCell', look, upd, del, names, Nat.reduceAdd, Nat.reduceMul, Nat.reduceSub, Nat.reduceLeDiff, Nat.reduceEqDiff, ↓reduceIte, ne_eq, reduceCtorEq, forall_const, times, Value.cells, exists_and_left, exists_eq_left', eq_self, Nat.reduceLT, Int.reduceLT, Int.reduceLE, Int.reduceToNat, Int.reduceAdd, Int.reduceSub, Int.reduceNeg, hnm, Tryd.tf0, Tryd.tf1, Tryd.tf2, Tryd.tf3, Tryd.tf4, Tryd.tf5, Tryd.tf9, Tryd.teq30, Tryd.tf53, Tryd.teq57, Tryd.teq58, Tryd.tf78, Tryd.tf79, Tryd.teq79, Tryd.teq80, Tryd.tf81, Tryd.tf83, Tryd.tf86, Tryd.teq86, Tryd.teq88, Tryd.teq96, Tryd.teq98, Tryd.call57, td, tm, hcl, hcl0, hg, hsh, hby, hset]); repeat (refine And.intro (by omega) ?_))
    | ((first | with_reducible apply WL_nil | with_reducible apply W_label | with_reducible apply W_skip | with_reducible apply W_exit | with_reducible apply W_ret); try simp only [seqK, blockK, scopeK, ↓reduceIte, Nat.reduceEqDiff])
    | (with_reducible apply W_cond_k; intro _ _ ea eb; (simp only [condK, not_true_eq_false, not_false_eq_true, opnd, constPV, List.getD_cons_zero, List.getD_cons_succ, fr_getD_cons, fr_getD_nil, Nat.reduceEqDiff, Nat.reduceLT, ↓reduceIte, hcb, reduceCtorEq, false_implies, true_implies, forall_const, bne_iff_ne, beq_iff_eq, ne_eq]); subst ea eb; first | (refine ⟨fun hc => ?_, fun hc => ?_⟩ <;> first | (exfalso; omega) | (exfalso; exact hc trivial) | skip) | skip)
    | (with_reducible apply hnx; clear hnx nx)
    | (with_reducible refine And.intro (by omega) ?_)
    | (with_reducible refine And.intro ?_ ?_)
    | (clear hnx nx; with_reducible apply hnx; clear hnx nx)
    | (clear hnx nx; clear hnx nx; with_reducible apply hnx; clear hnx nx)
    | (clear hnx nx; clear hnx nx; clear hnx nx; with_reducible apply hnx; clear hnx nx))
        all_goals first
          | (exfalso
             omega)
          | (refine hlp _ (32 - (j + 1)) _ (by omega) ?_ ⟨j + 1, by omega, rfl, rfl⟩
             refine Wk_fr (by simp only [List.forall_mem_cons, List.not_mem_nil, false_implies, implies_true, and_true, true_and, and_self, fr_getD_cons, fr_getD_nil, Nat.reduceEqDiff, Nat.reduceLT, ↓reduceIte, Int.natCast_add, Int.cast_ofNat_Int, Int.natCast_zero]) ?_
             exact Sub_refl hnd)
      · have hje : j = 32 := by omega
        subst hje
        have hcf := oC_full S
        have hone := all_one_byte (outB S)
        have hol := outB_len S
        have htk : List.take 32 ((outB S).map pbyte) = (outB S).map pbyte := List.take_of_length_le (by simp [hol])
        have hdr : List.drop 32 (oC S 0) = [] := List.drop_of_length_le (by omega)
        rw [hcf]
        repeat' (first
    | (with_reducible apply W_seq_k; intro nx hnx)
    | with_reducible apply W_block
    | with_reducible apply W_scope
    | (with_reducible refine W_prune 1099520016639 ?_; simp only [prune_cons, prune_nil, Nat.reducePow, Nat.reduceDiv, Nat.reduceMod, Nat.reduceBEq, cond_true, cond_false]; with_reducible apply W_region_l)
    | ((first | (with_reducible apply WL_op; intro nx hnx) | with_reducible refine Ev_out ?_ | (with_reducible refine pfresh_k hnm fun nm hnm => ?_; (try simp only [List.forall_mem_cons, List.not_mem_nil, false_implies, implies_true, and_true, true_and, ne_eq] at hnm))); try (simp (maxSteps := 2000000) (disch := omega) only [evb, ↓popG_eq, ↓pop.eq_1, ↓List.getElem?_map, ↓List.getElem?_cons_zero, ↓List.getElem?_cons_succ, pbuiltin, opnd, constPV, PState.put, layFrom, List.set, pnck, seqK, blockK, scopeK, pbin, pun, ppick, plen, pldop, pload, pfaddr, piaddr, pindex, pfield, pslice, pbound, pconv, pelems, pextract, pmm, parr, pbuild, pfill, PV.mem?, PV.one, PV.cells, pageq, peqs, peq1, palloc, pbox, pbuildS, pmakes, pstore, pappend, pcopy, pbytes, pmark, psrc, vcells, Value.oneCell', look, upd, del, names, Nat.reduceAdd, Nat.reduceMul, Nat.reduceSub, Nat.reduceLeDiff, Nat.reduceEqDiff, ↓reduceIte, ne_eq, reduceCtorEq, forall_const, times, Value.cells, exists_and_left, exists_eq_left', eq_self, Nat.reduceLT, Int.reduceLT, Int.reduceLE, Int.reduceToNat, Int.reduceAdd, Int.reduceSub, Int.reduceNeg, hnm, Tryd.tf0, Tryd.tf1, Tryd.tf2, Tryd.tf3, Tryd.tf4, Tryd.tf5, Tryd.tf9, Tryd.teq30, Tryd.tf53, Tryd.teq57, Tryd.teq58, Tryd.tf78, Tryd.tf79, Tryd.teq79, Tryd.teq80, Tryd.tf81, Tryd.tf83, Tryd.tf86, Tryd.teq86, Tryd.teq88, Tryd.teq96, Tryd.teq98, Tryd.call57, hol, htk, hone, hcl0, hdr, Nat.min_self]); repeat (refine And.intro (by omega) ?_))
    | ((first | with_reducible apply WL_nil | with_reducible apply W_label | with_reducible apply W_skip | with_reducible apply W_exit | with_reducible apply W_ret); try simp only [seqK, blockK, scopeK, ↓reduceIte, Nat.reduceEqDiff])
    | (with_reducible apply W_cond_k; intro _ _ ea eb; (simp only [condK, not_true_eq_false, not_false_eq_true, opnd, constPV, List.getD_cons_zero, List.getD_cons_succ, fr_getD_cons, fr_getD_nil, Nat.reduceEqDiff, Nat.reduceLT, ↓reduceIte, hcb, reduceCtorEq, false_implies, true_implies, forall_const, bne_iff_ne, beq_iff_eq, ne_eq]); subst ea eb; first | (refine ⟨fun hc => ?_, fun hc => ?_⟩ <;> first | (exfalso; omega) | (exfalso; exact hc trivial) | skip) | skip)
    | (with_reducible apply hnx; clear hnx nx)
    | (with_reducible refine And.intro (by omega) ?_)
    | (with_reducible refine And.intro ?_ ?_)
    | (clear hnx nx; with_reducible apply hnx; clear hnx nx)
    | (clear hnx nx; clear hnx nx; with_reducible apply hnx; clear hnx nx)
    | (clear hnx nx; clear hnx nx; clear hnx nx; with_reducible apply hnx; clear hnx nx))
        all_goals first
          | (exfalso
             omega)
          | skip
        refine hfin _ _ (Fin_cell (res := .agg ((outB S).map pbyte)) Tryd.tf86 (n := N2) (off := 0) (o := ⟨86, false, 0, (outB S).map pbyte⟩) (by simp only [fr_getD_cons, Nat.reduceEqDiff, Nat.reduceLT, ↓reduceIte]) (by simp [look, hnm]) ?_ (Sub_nil _) ⟨by rw [hsy], rfl⟩)
        simp [pload, hol, htk, hone]
  · have hz1 : z < zN t.length := by
      rcases Nat.lt_or_ge z (zN t.length) with h | h
      · exact h
      · exact absurd (by rw [Nat.le_antisymm hzz h]; exact zN_go _) hst
    have hoz : o ++ [0] = 128 :: List.replicate (z + 1) 0 := by
      rw [ho, List.replicate_succ']
      rfl
    have hsz : (t.length + o.length) % 64 ≠ 56 := by rw [hol, ← Nat.add_assoc]; exact hst
    repeat' (first
    | (with_reducible apply W_seq_k; intro nx hnx)
    | with_reducible apply W_block
    | with_reducible apply W_scope
    | (with_reducible refine W_prune 1099520016639 ?_; simp only [prune_cons, prune_nil, Nat.reducePow, Nat.reduceDiv, Nat.reduceMod, Nat.reduceBEq, cond_true, cond_false]; with_reducible apply W_region_l)
    | ((first | (with_reducible apply WL_op; intro nx hnx) | with_reducible refine Ev_out ?_ | (with_reducible refine pfresh_k hnm fun nm hnm => ?_; (try simp only [List.forall_mem_cons, List.not_mem_nil, false_implies, implies_true, and_true, true_and, ne_eq] at hnm))); try (simp (maxSteps := 2000000) (disch := omega) only [evb, ↓popG_eq, ↓pop.eq_1, ↓List.getElem?_map, ↓List.getElem?_cons_zero, ↓List.getElem?_cons_succ, pbuiltin, opnd, constPV, PState.put, layFrom, List.set, pnck, seqK, blockK, scopeK, pbin, pun, ppick, plen, pldop, pload, pfaddr, piaddr, pindex, pfield, pslice, pbound, pconv, pelems, pextract, pmm, parr, pbuild, pfill, PV.mem?, PV.one, PV.cells, pageq, peqs, peq1, palloc, pbox, pbuildS, pmakes, pstore, pappend, pcopy, pbytes, pmark, psrc, vcells, Value.oneCell', look, upd, del, names, Nat.reduceAdd, Nat.reduceMul, Nat.reduceSub, Nat.reduceLeDiff, Nat.reduceEqDiff, ↓reduceIte, ne_eq, reduceCtorEq, forall_const, times, Value.cells, exists_and_left, exists_eq_left', eq_self, Nat.reduceLT, Int.reduceLT, Int.reduceLE, Int.reduceToNat, Int.reduceAdd, Int.reduceSub, Int.reduceNeg, hnm, Tryd.tf0, Tryd.tf1, Tryd.tf2, Tryd.tf3, Tryd.tf4, Tryd.tf5, Tryd.tf9, Tryd.teq30, Tryd.tf53, Tryd.teq57, Tryd.teq58, Tryd.tf78, Tryd.tf79, Tryd.teq79, Tryd.teq80, Tryd.tf81, Tryd.tf83, Tryd.tf86, Tryd.teq86, Tryd.teq88, Tryd.teq96, Tryd.teq98, Tryd.call57, hl3, hg3, htm]); repeat (refine And.intro (by omega) ?_))
    | ((first | with_reducible apply WL_nil | with_reducible apply W_label | with_reducible apply W_skip | with_reducible apply W_exit | with_reducible apply W_ret); try simp only [seqK, blockK, scopeK, ↓reduceIte, Nat.reduceEqDiff])
    | (with_reducible apply W_cond_k; intro _ _ ea eb; (simp only [condK, not_true_eq_false, not_false_eq_true, opnd, constPV, List.getD_cons_zero, List.getD_cons_succ, fr_getD_cons, fr_getD_nil, Nat.reduceEqDiff, Nat.reduceLT, ↓reduceIte, hcb, reduceCtorEq, false_implies, true_implies, forall_const, bne_iff_ne, beq_iff_eq, ne_eq]); subst ea eb; first | (refine ⟨fun hc => ?_, fun hc => ?_⟩ <;> first | (exfalso; omega) | (exfalso; exact hc trivial) | skip) | skip)
    | (with_reducible apply hnx; clear hnx nx)
    | (with_reducible refine And.intro (by omega) ?_)
    | (with_reducible refine And.intro ?_ ?_)
    | (clear hnx nx; with_reducible apply hnx; clear hnx nx)
    | (clear hnx nx; clear hnx nx; with_reducible apply hnx; clear hnx nx)
    | (clear hnx nx; clear hnx nx; clear hnx nx; with_reducible apply hnx; clear hnx nx))
    all_goals first
      | (exfalso
         omega)
      | (refine hlp _ (zN t.length - (z + 1)) _ (by omega) ?_ ⟨z + 1, nm, o ++ [0], by omega, rfl, hoz, by simp [hnm], rfl⟩
         rw [List.length_append, List.map_append]
         refine Wk_fr (by simp only [List.forall_mem_cons, List.not_mem_nil, false_implies, implies_true, and_true, true_and, and_self, fr_getD_cons, fr_getD_nil, Nat.reduceEqDiff, Nat.reduceLT, ↓reduceIte, Int.natCast_add, Int.cast_ofNat_Int, Int.natCast_zero, List.length_cons, List.length_nil, Nat.zero_add]) ?_
         exact ⟨by simp, by simp [names, hnm]⟩)
end Go.PM

namespace Go.PM
open Go.Proofs
attribute [local irreducible] W PCalls pcall pcallI WL
def tagB (tag : Int) : UInt8 := UInt8.ofNat (tag % 256).toNat
def ofIn (tag : Int) (parts : List (List UInt8)) : List UInt8 := tagB tag :: parts.flatMap bytesB
def ofH (tag : Int) (parts : List (List UInt8)) : List UInt8 := (sha (ofIn tag parts)).take 16
theorem ofH_len (tag : Int) (parts : List (List UInt8)) : (ofH tag parts).length = 16 := by rw [ofH, List.length_take, sha_len]; rfl
theorem tagB_wrap (tag : Int) : IntKind.u8.wrap tag = (((tagB tag).toNat : Nat) : Int) := by
  have h : (tag % 256).toNat < 256 := by omega
  have h2 : (tagB tag).toNat = (tag % 256).toNat := UInt8.toNat_ofNat_of_lt' (by simpa using h)
  rw [h2]
  simp [IntKind.wrap, IntKind.bits, IntKind.signed]
  omega
theorem bytesB_len (s : List UInt8) (h : s.length ≤ 4000) : (bytesB s).length ≤ s.length + 9 := by
  have := intB_len9 (n := s.length) ⟨by omega, by omega⟩
  rw [bytesB, List.length_append]
  omega
theorem flat_le : ∀ (parts : List (List UInt8)), (∀ p ∈ parts, p.length ≤ 4000) → (parts.flatMap bytesB).length ≤ parts.length * 4009
  | [], _ => by simp
  | p :: ps, h => by
    have h1 := bytesB_len p (h p (.head _))
    have h2 := h p (.head _)
    have h3 := flat_le ps fun q hq => h q (.tail _ hq)
    rw [List.flatMap_cons, List.length_append, List.length_cons]
    omega
def preP (tag : Int) (parts : List (List UInt8)) (i : Nat) : List UInt8 := tagB tag :: (parts.take i).flatMap bytesB
theorem preP_zero (tag : Int) (parts : List (List UInt8)) : preP tag parts 0 = [tagB tag] := by simp [preP]
theorem preP_succ (tag : Int) (parts : List (List UInt8)) (i : Nat) (p : List UInt8) (h : parts[i]? = some p) : preP tag parts (i + 1) = preP tag parts i ++ bytesB p := by
  rw [preP, List.take_add_one, h, Option.toList_some, List.flatMap_append, List.flatMap_singleton, preP]
  rfl
theorem preP_all (tag : Int) (parts : List (List UInt8)) (i : Nat) (h : parts.length ≤ i) : preP tag parts i = ofIn tag parts := by
  rw [preP, List.take_of_length_le h, ofIn]
theorem preP_le (tag : Int) (parts : List (List UInt8)) (i : Nat) (h : ∀ p ∈ parts, p.length ≤ 4000) (hn : parts.length ≤ 100) : (preP tag parts i).length ≤ 400901 := by
  have h1 := flat_le (parts.take i) fun p hp => h p (List.mem_of_mem_take hp)
  rw [preP, List.length_cons]
  rw [List.length_take] at h1
  have : min i parts.length ≤ 100 := by omega
  have := Nat.mul_le_mul_right 4009 this
  omega
theorem ofIn_le (tag : Int) (parts : List (List UInt8)) (h : ∀ p ∈ parts, p.length ≤ 4000) (hn : parts.length ≤ 100) : (ofIn tag parts).length ≤ 400901 := by
  rw [← preP_all tag parts parts.length (Nat.le_refl _)]
  exact preP_le tag parts _ h hn
end Go.PM

namespace Go.PM
open Go.Proofs
attribute [local irreducible] W PCalls pcall pcallI WL
theorem stC_len (t : List UInt8) : (stC t).length = 73 := by rw [stC_st3, st3_len (stS_len t) (qOf_len t)]
theorem stC_one (t : List UInt8) : (stC t).all PV.one = true := by rw [stC_st3]; exact st3_one
theorem stC_take (t : List UInt8) : List.take 73 (stC t) = stC t := List.take_of_length_le (by rw [stC_len]; exact Nat.le_refl _)
theorem stC_drop (t : List UInt8) : List.drop 73 (stC t) = [] := List.drop_of_length_le (by rw [stC_len]; exact Nat.le_refl _)
theorem isB1 (b : UInt8) : isByte (pint .u8 ((b.toNat : Nat) : Int)) = true := by
  have := b.toNat_lt
  simp [isByte]
  omega
attribute [local irreducible] stC
set_option maxRecDepth 100000 in
set_option maxHeartbeats 8000000 in
theorem hof_c (G : Globs) (hG : G 1 = .iptr (KS.map pw) 0) (tag : Int) (parts : List (List UInt8)) (h : ∀ p ∈ parts, p.length ≤ 4000) (hn : parts.length ≤ 100) : PCalls Tryd.prog G 35 [pint .i64 tag, .list 1 (parts.map pstr)] [] (fun res H => res = .agg ((ofH tag parts).map pbyte) ∧ H = []) := by
  have hw := tagB_wrap tag
  have a0 := add_c G hG [] [tagB tag] (by simp)
  rw [List.nil_append] at a0
  have hub := unb_pbyte (tagB tag)
  have his := isB1 (tagB tag)
  have htot := ofIn_le tag parts h hn
  have hs := ssum_c G hG (ofIn tag parts) (by omega)
  have hd : ofH tag parts = (sha (ofIn tag parts)).take 16 := rfl
  have hol := ofH_len tag parts
  have hsl := sha_len (ofIn tag parts)
  have hone := all_one_byte (ofH tag parts)
  have hone2 := all_one_byte (sha (ofIn tag parts))
  have htk : List.take 16 ((ofH tag parts).map pbyte) = (ofH tag parts).map pbyte := List.take_of_length_le (by rw [List.length_map]; omega)
  have htk2 : List.take 16 ((sha (ofIn tag parts)).map pbyte) = (ofH tag parts).map pbyte := by rw [hd, List.map_take]
  have htk3 : List.take 32 ((sha (ofIn tag parts)).map pbyte) = (sha (ofIn tag parts)).map pbyte := List.take_of_length_le (by rw [List.length_map]; omega)
  (refine PCalls_f Tryd.func35 rfl Tryd.ntmps35 Tryd.results35 (by simp) fun fin hfin => ?_; have hnm : True := trivial; simp (maxSteps := 2000000) (disch := omega) only [evb, ↓popG_eq, ↓pop.eq_1, ↓List.getElem?_map, ↓List.getElem?_cons_zero, ↓List.getElem?_cons_succ, pbuiltin, opnd, constPV, PState.put, layFrom, List.set, pnck, seqK, blockK, scopeK, pbin, pun, ppick, plen, pldop, pload, pfaddr, piaddr, pindex, pfield, pslice, pbound, pconv, pelems, pextract, pmm, parr, pbuild, pfill, PV.mem?, PV.one, PV.cells, pageq, peqs, peq1, palloc, pbox, pbuildS, pmakes, pstore, pappend, pcopy, pbytes, pmark, psrc, vcells, Value.oneCell', look, upd, del, names, Nat.reduceAdd, Nat.reduceMul, Nat.reduceSub, Nat.reduceLeDiff, Nat.reduceEqDiff, ↓reduceIte, ne_eq, reduceCtorEq, forall_const, times, Value.cells, exists_and_left, exists_eq_left', eq_self, Nat.reduceLT, Int.reduceLT, Int.reduceLE, Int.reduceToNat, Int.reduceAdd, Int.reduceSub, Int.reduceNeg, hnm, Tryd.tf0, Tryd.tf1, Tryd.tf3, Tryd.tf5, Tryd.tf9, Tryd.teq30, Tryd.tf52, Tryd.tf53, Tryd.teq57, Tryd.tf58, Tryd.teq58, Tryd.teq79, Tryd.teq80, Tryd.tf83, Tryd.tf86, Tryd.teq86, Tryd.teq88, Tryd.teq96, Tryd.teq98, Tryd.call53, Tryd.call56, Tryd.call57, Tryd.call58])
  with_reducible apply W_seq_k
  intro nx hnx
  repeat' (first
    | with_reducible apply W_block
    | with_reducible apply W_scope
    | (with_reducible refine W_prune 229811 ?_; simp only [prune_cons, prune_nil, Nat.reducePow, Nat.reduceDiv, Nat.reduceMod, Nat.reduceBEq, cond_true, cond_false]; with_reducible apply W_region_l)
    | (with_reducible refine W_prune 229811 ?_; simp only [prune_cons, prune_nil, Nat.reducePow, Nat.reduceDiv, Nat.reduceMod, Nat.reduceBEq, cond_true, cond_false]; with_reducible refine W_region_draw (id := 1) 1 (.op 1 true (.op 2 true (.alt 0 true (.alt 3 false (.op 4 true (.alt 5 true (.op 6 true (.op 7 false (.done))) (.alt 6 true (.op 5 true (.op 7 false (.done))) .stop))) (.alt 6 true (.op 3 false (.op 4 true (.op 5 true (.op 7 false (.done))))) .stop)) (.alt 3 false (.op 4 true (.alt 0 true (.alt 5 true (.op 6 true (.op 7 false (.done))) (.alt 6 true (.op 5 true (.op 7 false (.done))) .stop)) (.alt 6 true (.op 0 true (.op 5 true (.op 7 false (.done)))) .stop))) (.alt 6 true (.alt 0 true (.op 3 false (.op 4 true (.op 5 true (.op 7 false (.done))))) (.alt 3 false (.op 4 true (.op 0 true (.op 5 true (.op 7 false (.done))))) .stop)) .stop))))) (by kernel_rfl) ?_)
    | (with_reducible refine W_prune 229811 ?_; simp only [prune_cons, prune_nil, Nat.reducePow, Nat.reduceDiv, Nat.reduceMod, Nat.reduceBEq, cond_true, cond_false]; with_reducible refine W_region_draw (id := 5) 1 (.op 0 true (.op 1 true (.op 2 true (.op 3 true (.op 4 false (.op 5 false (.done))))))) (by kernel_rfl) ?_)
    | ((first | (with_reducible apply WL_op; intro nx hnx) | with_reducible refine Ev_out ?_ | (with_reducible apply popsD_op; intro nx hnx) | (with_reducible refine popsD_alt ?_ ?_; intro nx hnx) | (with_reducible refine pfresh_k hnm fun nm hnm => ?_; (try simp only [List.forall_mem_cons, List.not_mem_nil, false_implies, implies_true, and_true, true_and, ne_eq] at hnm))); try (simp (maxSteps := 2000000) (disch := omega) only [evb, ↓popG_eq, ↓pop.eq_1, ↓List.getElem?_map, ↓List.getElem?_cons_zero, ↓List.getElem?_cons_succ, pbuiltin, opnd, constPV, PState.put, layFrom, List.set, pnck, seqK, blockK, scopeK, pbin, pun, ppick, plen, pldop, pload, pfaddr, piaddr, pindex, pfield, pslice, pbound, pconv, pelems, pextract, pmm, parr, pbuild, pfill, PV.mem?, PV.one, PV.cells, pageq, peqs, peq1, palloc, pbox, pbuildS, pmakes, pstore, pappend, pcopy, pbytes, pmark, psrc, vcells, Value.oneCell', look, upd, del, names, Nat.reduceAdd, Nat.reduceMul, Nat.reduceSub, Nat.reduceLeDiff, Nat.reduceEqDiff, ↓reduceIte, ne_eq, reduceCtorEq, forall_const, times, Value.cells, exists_and_left, exists_eq_left', eq_self, Nat.reduceLT, Int.reduceLT, Int.reduceLE, Int.reduceToNat, Int.reduceAdd, Int.reduceSub, Int.reduceNeg, hnm, Tryd.tf0, Tryd.tf1, Tryd.tf3, Tryd.tf5, Tryd.tf9, Tryd.teq30, Tryd.tf52, Tryd.tf53, Tryd.teq57, Tryd.tf58, Tryd.teq58, Tryd.teq79, Tryd.teq80, Tryd.tf83, Tryd.tf86, Tryd.teq86, Tryd.teq88, Tryd.teq96, Tryd.teq98, Tryd.call53, Tryd.call56, Tryd.call57, Tryd.call58]); repeat (refine And.intro (by omega) ?_))
    | ((first | with_reducible apply WL_nil | with_reducible apply W_label | with_reducible apply W_skip | with_reducible apply W_exit | with_reducible apply W_ret | with_reducible apply popsD_done); try simp only [seqK, blockK, scopeK, ↓reduceIte, Nat.reduceEqDiff])
    | with_reducible exact popsD_stop
    | (with_reducible apply W_cond_k; intro _ _ ea eb; (simp only [condK, not_true_eq_false, not_false_eq_true, opnd, constPV, List.getD_cons_zero, List.getD_cons_succ, fr_getD_cons, fr_getD_nil, Nat.reduceEqDiff, Nat.reduceLT, ↓reduceIte, hcb, reduceCtorEq, false_implies, true_implies, forall_const, bne_iff_ne, beq_iff_eq, ne_eq]); subst ea eb; first | (refine ⟨fun hc => ?_, fun hc => ?_⟩ <;> first | (exfalso; omega) | (exfalso; exact hc trivial) | skip) | skip)
    | (with_reducible apply hnx; clear hnx nx)
    | (with_reducible refine And.intro (by omega) ?_)
    | (with_reducible refine And.intro ?_ ?_)
    | (clear hnx nx; with_reducible apply hnx; clear hnx nx)
    | (clear hnx nx; clear hnx nx; with_reducible apply hnx; clear hnx nx)
    | (clear hnx nx; clear hnx nx; clear hnx nx; with_reducible apply hnx; clear hnx nx))
  obtain ⟨N4, hN4⟩ : ∃ N, N = nm := ⟨_, rfl⟩
  subst hN4
  with_reducible apply W_seq_k
  intro nx hnx
  obtain ⟨Z, hZ⟩ : ∃ Z, Z = List.replicate 16 (pint .u8 0) := ⟨_, rfl⟩
  have hZl : Z.length = 16 := by rw [hZ]; rfl
  have hnx := W_join hnx (fun τ => ∃ N5 : Int, ¬ N5 = N4 ∧ τ = ⟨fr 32 [(1, .list 1 (parts.map pstr)), (4, .ptr N4 0), (5, .ptr N5 0)], [(N5, ⟨83, false, 0, stC [tagB tag]⟩), (N4, ⟨58, false, 0, Z⟩)]⟩) (by
    clear hnx nx hnm a0 his hub hw
    rintro τ ⟨N5, hN, rfl⟩
    have hnm : ¬ N5 = N4 ∧ ¬ N4 = N5 := ⟨hN, fun e => hN e.symm⟩
    have hnd : [N5, N4].Nodup := by simp [hN]
    repeat' (first
    | (with_reducible apply W_seq_k; intro nx hnx)
    | with_reducible apply W_block
    | with_reducible apply W_scope
    | (with_reducible refine W_prune 229811 ?_; simp only [prune_cons, prune_nil, Nat.reducePow, Nat.reduceDiv, Nat.reduceMod, Nat.reduceBEq, cond_true, cond_false]; with_reducible apply W_region_l)
    | (with_reducible refine W_prune 229811 ?_; simp only [prune_cons, prune_nil, Nat.reducePow, Nat.reduceDiv, Nat.reduceMod, Nat.reduceBEq, cond_true, cond_false]; with_reducible refine W_region_draw (id := 1) 1 (.op 1 true (.op 2 true (.alt 0 true (.alt 3 false (.op 4 true (.alt 5 true (.op 6 true (.op 7 false (.done))) (.alt 6 true (.op 5 true (.op 7 false (.done))) .stop))) (.alt 6 true (.op 3 false (.op 4 true (.op 5 true (.op 7 false (.done))))) .stop)) (.alt 3 false (.op 4 true (.alt 0 true (.alt 5 true (.op 6 true (.op 7 false (.done))) (.alt 6 true (.op 5 true (.op 7 false (.done))) .stop)) (.alt 6 true (.op 0 true (.op 5 true (.op 7 false (.done)))) .stop))) (.alt 6 true (.alt 0 true (.op 3 false (.op 4 true (.op 5 true (.op 7 false (.done))))) (.alt 3 false (.op 4 true (.op 0 true (.op 5 true (.op 7 false (.done))))) .stop)) .stop))))) (by kernel_rfl) ?_)
    | (with_reducible refine W_prune 229811 ?_; simp only [prune_cons, prune_nil, Nat.reducePow, Nat.reduceDiv, Nat.reduceMod, Nat.reduceBEq, cond_true, cond_false]; with_reducible refine W_region_draw (id := 5) 1 (.op 0 true (.op 1 true (.op 2 true (.op 3 true (.op 4 false (.op 5 false (.done))))))) (by kernel_rfl) ?_)
    | ((first | (with_reducible apply WL_op; intro nx hnx) | with_reducible refine Ev_out ?_ | (with_reducible apply popsD_op; intro nx hnx) | (with_reducible refine popsD_alt ?_ ?_; intro nx hnx) | (with_reducible refine pfresh_k hnm fun nm hnm => ?_; (try simp only [List.forall_mem_cons, List.not_mem_nil, false_implies, implies_true, and_true, true_and, ne_eq] at hnm))); try (simp (maxSteps := 2000000) (disch := omega) only [evb, ↓popG_eq, ↓pop.eq_1, ↓List.getElem?_map, ↓List.getElem?_cons_zero, ↓List.getElem?_cons_succ, pbuiltin, opnd, constPV, PState.put, layFrom, List.set, pnck, seqK, blockK, scopeK, pbin, pun, ppick, plen, pldop, pload, pfaddr, piaddr, pindex, pfield, pslice, pbound, pconv, pelems, pextract, pmm, parr, pbuild, pfill, PV.mem?, PV.one, PV.cells, pageq, peqs, peq1, palloc, pbox, pbuildS, pmakes, pstore, pappend, pcopy, pbytes, pmark, psrc, vcells, Value.oneCell', look, upd, del, names, Nat.reduceAdd, Nat.reduceMul, Nat.reduceSub, Nat.reduceLeDiff, Nat.reduceEqDiff, ↓reduceIte, ne_eq, reduceCtorEq, forall_const, times, Value.cells, exists_and_left, exists_eq_left', eq_self, Nat.reduceLT, Int.reduceLT, Int.reduceLE, Int.reduceToNat, Int.reduceAdd, Int.reduceSub, Int.reduceNeg, hnm, Tryd.tf0, Tryd.tf1, Tryd.tf3, Tryd.tf5, Tryd.tf9, Tryd.teq30, Tryd.tf52, Tryd.tf53, Tryd.teq57, Tryd.tf58, Tryd.teq58, Tryd.teq79, Tryd.teq80, Tryd.tf83, Tryd.tf86, Tryd.teq86, Tryd.teq88, Tryd.teq96, Tryd.teq98, Tryd.call53, Tryd.call56, Tryd.call57, Tryd.call58]); repeat (refine And.intro (by omega) ?_))
    | ((first | with_reducible apply WL_nil | with_reducible apply W_label | with_reducible apply W_skip | with_reducible apply W_exit | with_reducible apply W_ret | with_reducible apply popsD_done); try simp only [seqK, blockK, scopeK, ↓reduceIte, Nat.reduceEqDiff])
    | with_reducible exact popsD_stop
    | (with_reducible apply W_cond_k; intro _ _ ea eb; (simp only [condK, not_true_eq_false, not_false_eq_true, opnd, constPV, List.getD_cons_zero, List.getD_cons_succ, fr_getD_cons, fr_getD_nil, Nat.reduceEqDiff, Nat.reduceLT, ↓reduceIte, hcb, reduceCtorEq, false_implies, true_implies, forall_const, bne_iff_ne, beq_iff_eq, ne_eq]); subst ea eb; first | (refine ⟨fun hc => ?_, fun hc => ?_⟩ <;> first | (exfalso; omega) | (exfalso; exact hc trivial) | skip) | skip)
    | (with_reducible apply hnx; clear hnx nx)
    | (with_reducible refine And.intro (by omega) ?_)
    | (with_reducible refine And.intro ?_ ?_)
    | (clear hnx nx; with_reducible apply hnx; clear hnx nx)
    | (clear hnx nx; clear hnx nx; with_reducible apply hnx; clear hnx nx)
    | (clear hnx nx; clear hnx nx; clear hnx nx; with_reducible apply hnx; clear hnx nx))
    refine W_loop_k (fun z τ => ∃ (i : Nat) (u : List UInt8), i ≤ parts.length ∧ z = parts.length - i ∧ u = preP tag parts i ∧ τ = ⟨fr 32 [(15, .list 1 (parts.map pstr)), (16, pint .i64 parts.length), (17, pint .i64 i), (4, .ptr N4 0), (5, .ptr N5 0)], [(N5, ⟨83, false, 0, stC u⟩), (N4, ⟨58, false, 0, Z⟩)]⟩) parts.length
      ⟨fr 32 [(15, .list 1 (parts.map pstr)), (16, pint .i64 parts.length), (17, pint .i64 (0 : Nat)), (4, .ptr N4 0), (5, .ptr N5 0)], [(N5, ⟨83, false, 0, stC [tagB tag]⟩), (N4, ⟨58, false, 0, Z⟩)]⟩ (by
      refine Wk_fr (by simp only [List.forall_mem_cons, List.not_mem_nil, false_implies, implies_true, and_true, true_and, and_self, fr_getD_cons, fr_getD_nil, Nat.reduceEqDiff, Nat.reduceLT, ↓reduceIte, Int.natCast_add, Int.cast_ofNat_Int, Int.natCast_zero]) ?_
      exact Sub_refl hnd) ⟨0, [tagB tag], by omega, by omega, (preP_zero tag parts).symm, rfl⟩ ?_
    rintro z τ ⟨i, u, hi, rfl, hu, rfl⟩ lp hlp
    have hle := preP_le tag parts i h hn
    rw [← hu] at hle
    have l1 := stC_len u
    have l2 := stC_one u
    have l3 := stC_take u
    have l4 := stC_drop u
    by_cases hik : i < parts.length
    · obtain ⟨p, hg⟩ : ∃ p, parts[i]? = some p := ⟨_, List.getElem?_eq_getElem hik⟩
      have hg2 : parts[i]'(by omega) = p := by
        rw [List.getElem?_eq_getElem hik] at hg
        exact Option.some.inj hg
      have hp := h p (List.mem_of_getElem? hg)
      have hbl := bytesB_len p hp
      have hsu := preP_succ tag parts i p hg
      have b1 := isByte_pb (bytesB p)
      have b2 := unb_pb (bytesB p)
      have a1 := add_c G hG u (bytesB p) (by omega)
      rw [← hu] at hsu
      have m1 := stC_len (u ++ bytesB p)
      have m2 := stC_one (u ++ bytesB p)
      have m3 := stC_take (u ++ bytesB p)
      repeat' (first
    | (with_reducible apply W_seq_k; intro nx hnx)
    | with_reducible apply W_block
    | with_reducible apply W_scope
    | (with_reducible refine W_prune 229811 ?_; simp only [prune_cons, prune_nil, Nat.reducePow, Nat.reduceDiv, Nat.reduceMod, Nat.reduceBEq, cond_true, cond_false]; with_reducible apply W_region_l)
    | (with_reducible refine W_prune 229811 ?_; simp only [prune_cons, prune_nil, Nat.reducePow, Nat.reduceDiv, Nat.reduceMod, Nat.reduceBEq, cond_true, cond_false]; with_reducible refine W_region_draw (id := 1) 1 (.op 1 true (.op 2 true (.alt 0 true (.alt 3 false (.op 4 true (.alt 5 true (.op 6 true (.op 7 false (.done))) (.alt 6 true (.op 5 true (.op 7 false (.done))) .stop))) (.alt 6 true (.op 3 false (.op 4 true (.op 5 true (.op 7 false (.done))))) .stop)) (.alt 3 false (.op 4 true (.alt 0 true (.alt 5 true (.op 6 true (.op 7 false (.done))) (.alt 6 true (.op 5 true (.op 7 false (.done))) .stop)) (.alt 6 true (.op 0 true (.op 5 true (.op 7 false (.done)))) .stop))) (.alt 6 true (.alt 0 true (.op 3 false (.op 4 true (.op 5 true (.op 7 false (.done))))) (.alt 3 false (.op 4 true (.op 0 true (.op 5 true (.op 7 false (.done))))) .stop)) .stop))))) (by kernel_rfl) ?_)
    | (with_reducible refine W_prune 229811 ?_; simp only [prune_cons, prune_nil, Nat.reducePow, Nat.reduceDiv, Nat.reduceMod, Nat.reduceBEq, cond_true, cond_false]; with_reducible refine W_region_draw (id := 5) 1 (.op 0 true (.op 1 true (.op 2 true (.op 3 true (.op 4 false (.op 5 false (.done))))))) (by kernel_rfl) ?_)
    | ((first | (with_reducible apply WL_op; intro nx hnx) | with_reducible refine Ev_out ?_ | (with_reducible apply popsD_op; intro nx hnx) | (with_reducible refine popsD_alt ?_ ?_; intro nx hnx) | (with_reducible refine pfresh_k hnm fun nm hnm => ?_; (try simp only [List.forall_mem_cons, List.not_mem_nil, false_implies, implies_true, and_true, true_and, ne_eq] at hnm))); try (simp (maxSteps := 2000000) (disch := omega) only [evb, ↓popG_eq, ↓pop.eq_1, ↓List.getElem?_map, ↓List.getElem?_cons_zero, ↓List.getElem?_cons_succ, pbuiltin, opnd, constPV, PState.put, layFrom, List.set, pnck, seqK, blockK, scopeK, pbin, pun, ppick, plen, pldop, pload, pfaddr, piaddr, pindex, pfield, pslice, pbound, pconv, pelems, pextract, pmm, parr, pbuild, pfill, PV.mem?, PV.one, PV.cells, pageq, peqs, peq1, palloc, pbox, pbuildS, pmakes, pstore, pappend, pcopy, pbytes, pmark, psrc, vcells, Value.oneCell', look, upd, del, names, Nat.reduceAdd, Nat.reduceMul, Nat.reduceSub, Nat.reduceLeDiff, Nat.reduceEqDiff, ↓reduceIte, ne_eq, reduceCtorEq, forall_const, times, Value.cells, exists_and_left, exists_eq_left', eq_self, Nat.reduceLT, Int.reduceLT, Int.reduceLE, Int.reduceToNat, Int.reduceAdd, Int.reduceSub, Int.reduceNeg, hnm, Tryd.tf0, Tryd.tf1, Tryd.tf3, Tryd.tf5, Tryd.tf9, Tryd.teq30, Tryd.tf52, Tryd.tf53, Tryd.teq57, Tryd.tf58, Tryd.teq58, Tryd.teq79, Tryd.teq80, Tryd.tf83, Tryd.tf86, Tryd.teq86, Tryd.teq88, Tryd.teq96, Tryd.teq98, Tryd.call53, Tryd.call56, Tryd.call57, Tryd.call58, hg, hg2, b1, b2, l1, l2, l3, l4, m1, m2, m3]); repeat (refine And.intro (by omega) ?_))
    | ((first | with_reducible apply WL_nil | with_reducible apply W_label | with_reducible apply W_skip | with_reducible apply W_exit | with_reducible apply W_ret | with_reducible apply popsD_done); try simp only [seqK, blockK, scopeK, ↓reduceIte, Nat.reduceEqDiff])
    | with_reducible exact popsD_stop
    | (with_reducible apply W_cond_k; intro _ _ ea eb; (simp only [condK, not_true_eq_false, not_false_eq_true, opnd, constPV, List.getD_cons_zero, List.getD_cons_succ, fr_getD_cons, fr_getD_nil, Nat.reduceEqDiff, Nat.reduceLT, ↓reduceIte, hcb, reduceCtorEq, false_implies, true_implies, forall_const, bne_iff_ne, beq_iff_eq, ne_eq]); subst ea eb; first | (refine ⟨fun hc => ?_, fun hc => ?_⟩ <;> first | (exfalso; omega) | (exfalso; exact hc trivial) | skip) | skip)
    | (with_reducible apply hnx; clear hnx nx)
    | (with_reducible refine And.intro (by omega) ?_)
    | (with_reducible refine And.intro ?_ ?_)
    | (with_reducible refine pcall_k (wbytes_c G p (by omega)) ?_; rintro _ _ ⟨rfl, rfl⟩ -; refine Ev_in ?_)
    | (with_reducible refine pcall_k (a1) ?_; rintro _ _ ⟨rfl, rfl⟩ -; refine Ev_in ?_)
    | (clear hnx nx; with_reducible apply hnx; clear hnx nx)
    | (clear hnx nx; clear hnx nx; with_reducible apply hnx; clear hnx nx)
    | (clear hnx nx; clear hnx nx; clear hnx nx; with_reducible apply hnx; clear hnx nx))
      all_goals first
        | exact rfl
        | (exfalso
           omega)
        | (refine hlp _ (parts.length - (i + 1)) _ (by omega) ?_ ⟨i + 1, u ++ bytesB p, by omega, rfl, hsu.symm, rfl⟩
           refine Wk_fr (by simp only [List.forall_mem_cons, List.not_mem_nil, false_implies, implies_true, and_true, true_and, and_self, fr_getD_cons, fr_getD_nil, Nat.reduceEqDiff, Nat.reduceLT, ↓reduceIte, Int.natCast_add, Int.cast_ofNat_Int, Int.natCast_zero]) ?_
           exact Sub_refl hnd)
    · have hui : u = ofIn tag parts := by rw [hu, preP_all _ _ _ (by omega)]
      rw [← hui] at hs hone2 htk2 htk3 hsl
      have hZd : List.drop 16 Z = [] := List.drop_of_length_le (by omega)
      have hsl2 : ((sha u).map pbyte).length = 32 := by rw [List.length_map, hsl]
      have hol2 : ((ofH tag parts).map pbyte).length = 16 := by rw [List.length_map, hol]
      repeat' (first
    | (with_reducible apply W_seq_k; intro nx hnx)
    | with_reducible apply W_block
    | with_reducible apply W_scope
    | (with_reducible refine W_prune 229811 ?_; simp only [prune_cons, prune_nil, Nat.reducePow, Nat.reduceDiv, Nat.reduceMod, Nat.reduceBEq, cond_true, cond_false]; with_reducible apply W_region_l)
    | (with_reducible refine W_prune 229811 ?_; simp only [prune_cons, prune_nil, Nat.reducePow, Nat.reduceDiv, Nat.reduceMod, Nat.reduceBEq, cond_true, cond_false]; with_reducible refine W_region_draw (id := 1) 1 (.op 1 true (.op 2 true (.alt 0 true (.alt 3 false (.op 4 true (.alt 5 true (.op 6 true (.op 7 false (.done))) (.alt 6 true (.op 5 true (.op 7 false (.done))) .stop))) (.alt 6 true (.op 3 false (.op 4 true (.op 5 true (.op 7 false (.done))))) .stop)) (.alt 3 false (.op 4 true (.alt 0 true (.alt 5 true (.op 6 true (.op 7 false (.done))) (.alt 6 true (.op 5 true (.op 7 false (.done))) .stop)) (.alt 6 true (.op 0 true (.op 5 true (.op 7 false (.done)))) .stop))) (.alt 6 true (.alt 0 true (.op 3 false (.op 4 true (.op 5 true (.op 7 false (.done))))) (.alt 3 false (.op 4 true (.op 0 true (.op 5 true (.op 7 false (.done))))) .stop)) .stop))))) (by kernel_rfl) ?_)
    | (with_reducible refine W_prune 229811 ?_; simp only [prune_cons, prune_nil, Nat.reducePow, Nat.reduceDiv, Nat.reduceMod, Nat.reduceBEq, cond_true, cond_false]; with_reducible refine W_region_draw (id := 5) 1 (.op 0 true (.op 1 true (.op 2 true (.op 3 true (.op 4 false (.op 5 false (.done))))))) (by kernel_rfl) ?_)
    | ((first | (with_reducible apply WL_op; intro nx hnx) | with_reducible refine Ev_out ?_ | (with_reducible apply popsD_op; intro nx hnx) | (with_reducible refine popsD_alt ?_ ?_; intro nx hnx) | (with_reducible refine pfresh_k hnm fun nm hnm => ?_; (try simp only [List.forall_mem_cons, List.not_mem_nil, false_implies, implies_true, and_true, true_and, ne_eq] at hnm))); try (simp (maxSteps := 2000000) (disch := omega) only [evb, ↓popG_eq, ↓pop.eq_1, ↓List.getElem?_map, ↓List.getElem?_cons_zero, ↓List.getElem?_cons_succ, pbuiltin, opnd, constPV, PState.put, layFrom, List.set, pnck, seqK, blockK, scopeK, pbin, pun, ppick, plen, pldop, pload, pfaddr, piaddr, pindex, pfield, pslice, pbound, pconv, pelems, pextract, pmm, parr, pbuild, pfill, PV.mem?, PV.one, PV.cells, pageq, peqs, peq1, palloc, pbox, pbuildS, pmakes, pstore, pappend, pcopy, pbytes, pmark, psrc, vcells, Value.oneCell', look, upd, del, names, Nat.reduceAdd, Nat.reduceMul, Nat.reduceSub, Nat.reduceLeDiff, Nat.reduceEqDiff, ↓reduceIte, ne_eq, reduceCtorEq, forall_const, times, Value.cells, exists_and_left, exists_eq_left', eq_self, Nat.reduceLT, Int.reduceLT, Int.reduceLE, Int.reduceToNat, Int.reduceAdd, Int.reduceSub, Int.reduceNeg, hnm, Tryd.tf0, Tryd.tf1, Tryd.tf3, Tryd.tf5, Tryd.tf9, Tryd.teq30, Tryd.tf52, Tryd.tf53, Tryd.teq57, Tryd.tf58, Tryd.teq58, Tryd.teq79, Tryd.teq80, Tryd.tf83, Tryd.tf86, Tryd.teq86, Tryd.teq88, Tryd.teq96, Tryd.teq98, Tryd.call53, Tryd.call56, Tryd.call57, Tryd.call58, l1, l2, l3, l4, hone2, htk2, htk3, hsl, hsl2, hZl, hZd, hol, hol2, hone, htk]); repeat (refine And.intro (by omega) ?_))
    | ((first | with_reducible apply WL_nil | with_reducible apply W_label | with_reducible apply W_skip | with_reducible apply W_exit | with_reducible apply W_ret | with_reducible apply popsD_done); try simp only [seqK, blockK, scopeK, ↓reduceIte, Nat.reduceEqDiff])
    | with_reducible exact popsD_stop
    | (with_reducible apply W_cond_k; intro _ _ ea eb; (simp only [condK, not_true_eq_false, not_false_eq_true, opnd, constPV, List.getD_cons_zero, List.getD_cons_succ, fr_getD_cons, fr_getD_nil, Nat.reduceEqDiff, Nat.reduceLT, ↓reduceIte, hcb, reduceCtorEq, false_implies, true_implies, forall_const, bne_iff_ne, beq_iff_eq, ne_eq]); subst ea eb; first | (refine ⟨fun hc => ?_, fun hc => ?_⟩ <;> first | (exfalso; omega) | (exfalso; exact hc trivial) | skip) | skip)
    | (with_reducible apply hnx; clear hnx nx)
    | (with_reducible refine And.intro (by omega) ?_)
    | (with_reducible refine And.intro ?_ ?_)
    | (with_reducible refine pcall_k (hs) ?_; rintro _ _ ⟨rfl, rfl⟩ -; refine Ev_in ?_)
    | (clear hnx nx; with_reducible apply hnx; clear hnx nx)
    | (clear hnx nx; clear hnx nx; with_reducible apply hnx; clear hnx nx)
    | (clear hnx nx; clear hnx nx; clear hnx nx; with_reducible apply hnx; clear hnx nx))
      all_goals first
        | exact rfl
        | (exfalso
           omega)
        | skip
      generalize ofH tag parts = f at *
      refine hfin _ _ (Fin_cell (res := .agg (f.map pbyte)) Tryd.tf58 (n := N4) (off := 0) (o := ⟨58, false, 0, f.map pbyte⟩) (by simp only [fr_getD_cons, Nat.reduceEqDiff, Nat.reduceLT, ↓reduceIte]) (by simp [look, hnm]) ?_ (Sub_nil _) ⟨rfl, rfl⟩)
      simp [pload, hol, htk, hone])
  have mkT : ∀ (l : List (Nat × PV)) (H : Heap) (a : Int), ¬ a = N4 → (∀ x ∈ [(1, PV.list 1 (parts.map pstr)), (4, PV.ptr N4 0), (5, PV.ptr a 0)], (fr 32 l).getD x.1 .junk = x.2) →
      Sub [(a, ⟨83, false, 0, stC [tagB tag]⟩), (N4, ⟨58, false, 0, Z⟩)] H → nx ⟨fr 32 l, H⟩ :=
    fun l H a h1 h2 h3 => hnx _ ⟨_, ⟨a, h1, rfl⟩, Wk_fr h2 h3⟩
  clear hnx
  have l1 := stC_len [tagB tag]
  have l2 := stC_one [tagB tag]
  have l3 := stC_take [tagB tag]
  repeat' (first
    | (with_reducible apply W_seq_k; intro nx hnx)
    | with_reducible apply W_block
    | with_reducible apply W_scope
    | (with_reducible refine W_prune 229811 ?_; simp only [prune_cons, prune_nil, Nat.reducePow, Nat.reduceDiv, Nat.reduceMod, Nat.reduceBEq, cond_true, cond_false]; with_reducible apply W_region_l)
    | (with_reducible refine W_prune 229811 ?_; simp only [prune_cons, prune_nil, Nat.reducePow, Nat.reduceDiv, Nat.reduceMod, Nat.reduceBEq, cond_true, cond_false]; with_reducible refine W_region_draw (id := 1) 1 (.op 1 true (.op 2 true (.alt 0 true (.alt 3 false (.op 4 true (.alt 5 true (.op 6 true (.op 7 false (.done))) (.alt 6 true (.op 5 true (.op 7 false (.done))) .stop))) (.alt 6 true (.op 3 false (.op 4 true (.op 5 true (.op 7 false (.done))))) .stop)) (.alt 3 false (.op 4 true (.alt 0 true (.alt 5 true (.op 6 true (.op 7 false (.done))) (.alt 6 true (.op 5 true (.op 7 false (.done))) .stop)) (.alt 6 true (.op 0 true (.op 5 true (.op 7 false (.done)))) .stop))) (.alt 6 true (.alt 0 true (.op 3 false (.op 4 true (.op 5 true (.op 7 false (.done))))) (.alt 3 false (.op 4 true (.op 0 true (.op 5 true (.op 7 false (.done))))) .stop)) .stop))))) (by kernel_rfl) ?_)
    | (with_reducible refine W_prune 229811 ?_; simp only [prune_cons, prune_nil, Nat.reducePow, Nat.reduceDiv, Nat.reduceMod, Nat.reduceBEq, cond_true, cond_false]; with_reducible refine W_region_draw (id := 5) 1 (.op 0 true (.op 1 true (.op 2 true (.op 3 true (.op 4 false (.op 5 false (.done))))))) (by kernel_rfl) ?_)
    | ((first | (with_reducible apply WL_op; intro nx hnx) | with_reducible refine Ev_out ?_ | (with_reducible apply popsD_op; intro nx hnx) | (with_reducible refine popsD_alt ?_ ?_; intro nx hnx) | (with_reducible refine pfresh_k hnm fun nm hnm => ?_; (try simp only [List.forall_mem_cons, List.not_mem_nil, false_implies, implies_true, and_true, true_and, ne_eq] at hnm))); try (simp (maxSteps := 2000000) (disch := omega) only [evb, ↓popG_eq, ↓pop.eq_1, ↓List.getElem?_map, ↓List.getElem?_cons_zero, ↓List.getElem?_cons_succ, pbuiltin, opnd, constPV, PState.put, layFrom, List.set, pnck, seqK, blockK, scopeK, pbin, pun, ppick, plen, pldop, pload, pfaddr, piaddr, pindex, pfield, pslice, pbound, pconv, pelems, pextract, pmm, parr, pbuild, pfill, PV.mem?, PV.one, PV.cells, pageq, peqs, peq1, palloc, pbox, pbuildS, pmakes, pstore, pappend, pcopy, pbytes, pmark, psrc, vcells, Value.oneCell', look, upd, del, names, Nat.reduceAdd, Nat.reduceMul, Nat.reduceSub, Nat.reduceLeDiff, Nat.reduceEqDiff, ↓reduceIte, ne_eq, reduceCtorEq, forall_const, times, Value.cells, exists_and_left, exists_eq_left', eq_self, Nat.reduceLT, Int.reduceLT, Int.reduceLE, Int.reduceToNat, Int.reduceAdd, Int.reduceSub, Int.reduceNeg, hnm, Tryd.tf0, Tryd.tf1, Tryd.tf3, Tryd.tf5, Tryd.tf9, Tryd.teq30, Tryd.tf52, Tryd.tf53, Tryd.teq57, Tryd.tf58, Tryd.teq58, Tryd.teq79, Tryd.teq80, Tryd.tf83, Tryd.tf86, Tryd.teq86, Tryd.teq88, Tryd.teq96, Tryd.teq98, Tryd.call53, Tryd.call56, Tryd.call57, Tryd.call58, hw, hub, his, l1, l2, l3]); repeat (refine And.intro (by omega) ?_))
    | ((first | with_reducible apply WL_nil | with_reducible apply W_label | with_reducible apply W_skip | with_reducible apply W_exit | with_reducible apply W_ret | with_reducible apply popsD_done); try simp only [seqK, blockK, scopeK, ↓reduceIte, Nat.reduceEqDiff])
    | with_reducible exact popsD_stop
    | (with_reducible apply W_cond_k; intro _ _ ea eb; (simp only [condK, not_true_eq_false, not_false_eq_true, opnd, constPV, List.getD_cons_zero, List.getD_cons_succ, fr_getD_cons, fr_getD_nil, Nat.reduceEqDiff, Nat.reduceLT, ↓reduceIte, hcb, reduceCtorEq, false_implies, true_implies, forall_const, bne_iff_ne, beq_iff_eq, ne_eq]); subst ea eb; first | (refine ⟨fun hc => ?_, fun hc => ?_⟩ <;> first | (exfalso; omega) | (exfalso; exact hc trivial) | skip) | skip)
    | (with_reducible apply hnx; clear hnx nx)
    | (with_reducible refine And.intro (by omega) ?_)
    | (with_reducible refine And.intro ?_ ?_)
    | (with_reducible refine pcall_k (hbegin_c G) ?_; rintro _ _ ⟨rfl, rfl⟩ -; refine Ev_in ?_)
    | (with_reducible refine pcall_k (a0) ?_; rintro _ _ ⟨rfl, rfl⟩ -; refine Ev_in ?_)
    | (clear hnx nx; with_reducible apply hnx; clear hnx nx)
    | (clear hnx nx; clear hnx nx; with_reducible apply hnx; clear hnx nx)
    | (clear hnx nx; clear hnx nx; clear hnx nx; with_reducible apply hnx; clear hnx nx))
  all_goals first
    | exact rfl
    | skip
  all_goals
    rw [hZ] at mkT
    apply mkT
    rotate_left
    · simp only [List.forall_mem_cons, List.not_mem_nil, false_implies, implies_true, and_true, fr_getD_cons, fr_getD_nil, Nat.reduceEqDiff, Nat.reduceLT, ↓reduceIte]
      exact ⟨trivial, trivial, rfl⟩
    · exact ⟨by simp [List.replicate_succ], by simp [names, hnm]⟩
    · simp [hnm]
end Go.PM

namespace Go.PM
open Go.Proofs
attribute [local irreducible] W PCalls pcall pcallI WL
set_option maxRecDepth 100000 in
set_option maxHeartbeats 8000000 in
theorem wstrs_r (G : Globs) (l : List (List UInt8)) (hv : ∀ s ∈ l, s.length ≤ 4294967296) (hl : (encL bytesB l).length ≤ 4294967296) (hl2 : l.length ≤ 4294967296) : PCalls Tryd.prog G 33 [.list 1 (l.map pstr)] [] (RowB (encL bytesB l)) := by
  (refine PCalls_f Tryd.func33 rfl Tryd.ntmps33 Tryd.results33 (by simp) fun fin hfin => ?_; have hnm : True := trivial; simp (maxSteps := 2000000) (disch := omega) only [evb, ↓popG_eq, ↓pop.eq_1, ↓List.getElem?_map, ↓List.getElem?_cons_zero, ↓List.getElem?_cons_succ, pbuiltin, opnd, constPV, PState.put, layFrom, List.set, pnck, seqK, blockK, scopeK, pbin, pun, ppick, plen, pldop, pload, pfaddr, piaddr, pindex, pfield, pslice, pbound, pconv, pelems, pextract, pmm, parr, pbuild, pfill, PV.mem?, PV.one, PV.cells, pageq, peqs, peq1, palloc, pbox, pbuildS, pmakes, pstore, pappend, pcopy, pbytes, pmark, psrc, vcells, Value.oneCell', look, upd, del, names, Nat.reduceAdd, Nat.reduceMul, Nat.reduceSub, Nat.reduceLeDiff, Nat.reduceEqDiff, ↓reduceIte, ne_eq, reduceCtorEq, forall_const, times, Value.cells, exists_and_left, exists_eq_left', eq_self, Nat.reduceLT, Int.reduceLT, Int.reduceLE, Int.reduceToNat, Int.reduceAdd, Int.reduceSub, Int.reduceNeg, hnm, Tryd.tf0, Tryd.tf3, Tryd.tf5, Tryd.tf9, Tryd.teq30, Tryd.tf52, Tryd.tf53, Tryd.teq57, Tryd.teq58, Tryd.teq79, Tryd.teq80, Tryd.teq86, Tryd.teq88, Tryd.teq96, Tryd.teq98, Tryd.call52, Tryd.call53])
  repeat' (first
    | (with_reducible apply W_seq_k; intro nx hnx)
    | with_reducible apply W_block
    | with_reducible apply W_scope
    | (with_reducible refine W_prune 3629 ?_; simp only [prune_cons, prune_nil, Nat.reducePow, Nat.reduceDiv, Nat.reduceMod, Nat.reduceBEq, cond_true, cond_false]; with_reducible apply W_region_l)
    | ((first | (with_reducible apply WL_op; intro nx hnx) | with_reducible refine Ev_out ?_ | (with_reducible refine pfresh_k hnm fun nm hnm => ?_; (try simp only [List.forall_mem_cons, List.not_mem_nil, false_implies, implies_true, and_true, true_and, ne_eq] at hnm))); try (simp (maxSteps := 2000000) (disch := omega) only [evb, ↓popG_eq, ↓pop.eq_1, ↓List.getElem?_map, ↓List.getElem?_cons_zero, ↓List.getElem?_cons_succ, pbuiltin, opnd, constPV, PState.put, layFrom, List.set, pnck, seqK, blockK, scopeK, pbin, pun, ppick, plen, pldop, pload, pfaddr, piaddr, pindex, pfield, pslice, pbound, pconv, pelems, pextract, pmm, parr, pbuild, pfill, PV.mem?, PV.one, PV.cells, pageq, peqs, peq1, palloc, pbox, pbuildS, pmakes, pstore, pappend, pcopy, pbytes, pmark, psrc, vcells, Value.oneCell', look, upd, del, names, Nat.reduceAdd, Nat.reduceMul, Nat.reduceSub, Nat.reduceLeDiff, Nat.reduceEqDiff, ↓reduceIte, ne_eq, reduceCtorEq, forall_const, times, Value.cells, exists_and_left, exists_eq_left', eq_self, Nat.reduceLT, Int.reduceLT, Int.reduceLE, Int.reduceToNat, Int.reduceAdd, Int.reduceSub, Int.reduceNeg, hnm, Tryd.tf0, Tryd.tf3, Tryd.tf5, Tryd.tf9, Tryd.teq30, Tryd.tf52, Tryd.tf53, Tryd.teq57, Tryd.teq58, Tryd.teq79, Tryd.teq80, Tryd.teq86, Tryd.teq88, Tryd.teq96, Tryd.teq98, Tryd.call52, Tryd.call53]); repeat (refine And.intro (by omega) ?_))
    | ((first | with_reducible apply WL_nil | with_reducible apply W_label | with_reducible apply W_skip | with_reducible apply W_exit | with_reducible apply W_ret); try simp only [seqK, blockK, scopeK, ↓reduceIte, Nat.reduceEqDiff])
    | (with_reducible apply W_cond_k; intro _ _ ea eb; (simp only [condK, not_true_eq_false, not_false_eq_true, opnd, constPV, List.getD_cons_zero, List.getD_cons_succ, fr_getD_cons, fr_getD_nil, Nat.reduceEqDiff, Nat.reduceLT, ↓reduceIte, hcb, reduceCtorEq, false_implies, true_implies, forall_const, bne_iff_ne, beq_iff_eq, ne_eq]); subst ea eb; first | (refine ⟨fun hc => ?_, fun hc => ?_⟩ <;> first | (exfalso; omega) | (exfalso; exact hc trivial) | skip) | skip)
    | (with_reducible apply hnx; clear hnx nx)
    | (with_reducible refine And.intro (by omega) ?_)
    | (with_reducible refine And.intro ?_ ?_)
    | (clear hnx nx; with_reducible apply hnx; clear hnx nx)
    | (clear hnx nx; clear hnx nx; with_reducible apply hnx; clear hnx nx)
    | (clear hnx nx; clear hnx nx; clear hnx nx; with_reducible apply hnx; clear hnx nx))
  refine pcall_k (wint_r G l.length (by omega) (by omega)) ?_
  rintro _ _ ⟨N0, rfl, rfl⟩ -
  refine Ev_in ?_
  repeat' (first
    | (with_reducible apply W_seq_k; intro nx hnx)
    | with_reducible apply W_block
    | with_reducible apply W_scope
    | (with_reducible refine W_prune 3629 ?_; simp only [prune_cons, prune_nil, Nat.reducePow, Nat.reduceDiv, Nat.reduceMod, Nat.reduceBEq, cond_true, cond_false]; with_reducible apply W_region_l)
    | ((first | (with_reducible apply WL_op; intro nx hnx) | with_reducible refine Ev_out ?_ | (with_reducible refine pfresh_k hnm fun nm hnm => ?_; (try simp only [List.forall_mem_cons, List.not_mem_nil, false_implies, implies_true, and_true, true_and, ne_eq] at hnm))); try (simp (maxSteps := 2000000) (disch := omega) only [evb, ↓popG_eq, ↓pop.eq_1, ↓List.getElem?_map, ↓List.getElem?_cons_zero, ↓List.getElem?_cons_succ, pbuiltin, opnd, constPV, PState.put, layFrom, List.set, pnck, seqK, blockK, scopeK, pbin, pun, ppick, plen, pldop, pload, pfaddr, piaddr, pindex, pfield, pslice, pbound, pconv, pelems, pextract, pmm, parr, pbuild, pfill, PV.mem?, PV.one, PV.cells, pageq, peqs, peq1, palloc, pbox, pbuildS, pmakes, pstore, pappend, pcopy, pbytes, pmark, psrc, vcells, Value.oneCell', look, upd, del, names, Nat.reduceAdd, Nat.reduceMul, Nat.reduceSub, Nat.reduceLeDiff, Nat.reduceEqDiff, ↓reduceIte, ne_eq, reduceCtorEq, forall_const, times, Value.cells, exists_and_left, exists_eq_left', eq_self, Nat.reduceLT, Int.reduceLT, Int.reduceLE, Int.reduceToNat, Int.reduceAdd, Int.reduceSub, Int.reduceNeg, hnm, Tryd.tf0, Tryd.tf3, Tryd.tf5, Tryd.tf9, Tryd.teq30, Tryd.tf52, Tryd.tf53, Tryd.teq57, Tryd.teq58, Tryd.teq79, Tryd.teq80, Tryd.teq86, Tryd.teq88, Tryd.teq96, Tryd.teq98, Tryd.call52, Tryd.call53]); repeat (refine And.intro (by omega) ?_))
    | ((first | with_reducible apply WL_nil | with_reducible apply W_label | with_reducible apply W_skip | with_reducible apply W_exit | with_reducible apply W_ret); try simp only [seqK, blockK, scopeK, ↓reduceIte, Nat.reduceEqDiff])
    | (with_reducible apply W_cond_k; intro _ _ ea eb; (simp only [condK, not_true_eq_false, not_false_eq_true, opnd, constPV, List.getD_cons_zero, List.getD_cons_succ, fr_getD_cons, fr_getD_nil, Nat.reduceEqDiff, Nat.reduceLT, ↓reduceIte, hcb, reduceCtorEq, false_implies, true_implies, forall_const, bne_iff_ne, beq_iff_eq, ne_eq]); subst ea eb; first | (refine ⟨fun hc => ?_, fun hc => ?_⟩ <;> first | (exfalso; omega) | (exfalso; exact hc trivial) | skip) | skip)
    | (with_reducible apply hnx; clear hnx nx)
    | (with_reducible refine And.intro (by omega) ?_)
    | (with_reducible refine And.intro ?_ ?_)
    | (clear hnx nx; with_reducible apply hnx; clear hnx nx)
    | (clear hnx nx; clear hnx nx; with_reducible apply hnx; clear hnx nx)
    | (clear hnx nx; clear hnx nx; clear hnx nx; with_reducible apply hnx; clear hnx nx))
  refine W_loop_k (fun z τ => ∃ (i : Nat) (N : Int), i ≤ l.length ∧ z = l.length - i ∧ τ = ⟨fr 21 [(3, .row N 1 (preE bytesB l i).length), (9, .list 1 (l.map pstr)), (10, pint .i64 l.length), (11, pint .i64 i)], [(N, ⟨5, true, 1, (preE bytesB l i).map pbyte⟩)]⟩) l.length ⟨fr 21 [(3, .row N0 1 (preE bytesB l 0).length), (9, .list 1 (l.map pstr)), (10, pint .i64 l.length), (11, pint .i64 (0 : Nat))], [(N0, ⟨5, true, 1, (preE bytesB l 0).map pbyte⟩)]⟩ (by
    rw [preE_zero]
    exact Wk_fr (by simp only [List.forall_mem_cons, List.not_mem_nil, false_implies, implies_true, and_true, true_and, and_self, fr_getD_cons, fr_getD_nil, Nat.reduceEqDiff, Nat.reduceLT, ↓reduceIte, Int.natCast_add, Int.cast_ofNat_Int, Int.natCast_zero]) ⟨by simp, by simp [names]⟩) ⟨0, N0, by omega, by omega, rfl⟩ ?_
  rintro z τ ⟨i, N, hi', rfl, rfl⟩ lp hlp
  have hle := preE_le bytesB l (i + 1)
  by_cases hi : i < l.length
  · rw [preE_succ bytesB l i hi, List.length_append] at hle
    repeat' (first
    | (with_reducible apply W_seq_k; intro nx hnx)
    | with_reducible apply W_block
    | with_reducible apply W_scope
    | (with_reducible refine W_prune 3629 ?_; simp only [prune_cons, prune_nil, Nat.reducePow, Nat.reduceDiv, Nat.reduceMod, Nat.reduceBEq, cond_true, cond_false]; with_reducible apply W_region_l)
    | ((first | (with_reducible apply WL_op; intro nx hnx) | with_reducible refine Ev_out ?_ | (with_reducible refine pfresh_k hnm fun nm hnm => ?_; (try simp only [List.forall_mem_cons, List.not_mem_nil, false_implies, implies_true, and_true, true_and, ne_eq] at hnm))); try (simp (maxSteps := 2000000) (disch := omega) only [evb, ↓popG_eq, ↓pop.eq_1, ↓List.getElem?_map, ↓List.getElem?_cons_zero, ↓List.getElem?_cons_succ, pbuiltin, opnd, constPV, PState.put, layFrom, List.set, pnck, seqK, blockK, scopeK, pbin, pun, ppick, plen, pldop, pload, pfaddr, piaddr, pindex, pfield, pslice, pbound, pconv, pelems, pextract, pmm, parr, pbuild, pfill, PV.mem?, PV.one, PV.cells, pageq, peqs, peq1, palloc, pbox, pbuildS, pmakes, pstore, pappend, pcopy, pbytes, pmark, psrc, vcells, Value.oneCell', look, upd, del, names, Nat.reduceAdd, Nat.reduceMul, Nat.reduceSub, Nat.reduceLeDiff, Nat.reduceEqDiff, ↓reduceIte, ne_eq, reduceCtorEq, forall_const, times, Value.cells, exists_and_left, exists_eq_left', eq_self, Nat.reduceLT, Int.reduceLT, Int.reduceLE, Int.reduceToNat, Int.reduceAdd, Int.reduceSub, Int.reduceNeg, hnm, Tryd.tf0, Tryd.tf3, Tryd.tf5, Tryd.tf9, Tryd.teq30, Tryd.tf52, Tryd.tf53, Tryd.teq57, Tryd.teq58, Tryd.teq79, Tryd.teq80, Tryd.teq86, Tryd.teq88, Tryd.teq96, Tryd.teq98, Tryd.call52, Tryd.call53]); repeat (refine And.intro (by omega) ?_))
    | ((first | with_reducible apply WL_nil | with_reducible apply W_label | with_reducible apply W_skip | with_reducible apply W_exit | with_reducible apply W_ret); try simp only [seqK, blockK, scopeK, ↓reduceIte, Nat.reduceEqDiff])
    | (with_reducible apply W_cond_k; intro _ _ ea eb; (simp only [condK, not_true_eq_false, not_false_eq_true, opnd, constPV, List.getD_cons_zero, List.getD_cons_succ, fr_getD_cons, fr_getD_nil, Nat.reduceEqDiff, Nat.reduceLT, ↓reduceIte, hcb, reduceCtorEq, false_implies, true_implies, forall_const, bne_iff_ne, beq_iff_eq, ne_eq]); subst ea eb; first | (refine ⟨fun hc => ?_, fun hc => ?_⟩ <;> first | (exfalso; omega) | (exfalso; exact hc trivial) | skip) | skip)
    | (with_reducible apply hnx; clear hnx nx)
    | (with_reducible refine And.intro (by omega) ?_)
    | (with_reducible refine And.intro ?_ ?_)
    | (clear hnx nx; with_reducible apply hnx; clear hnx nx)
    | (clear hnx nx; clear hnx nx; with_reducible apply hnx; clear hnx nx)
    | (clear hnx nx; clear hnx nx; clear hnx nx; with_reducible apply hnx; clear hnx nx))
    all_goals first
      | (exfalso
         omega)
      | skip
    refine pcall_k (wbytes_c G l[i] (hv _ (List.getElem_mem hi))) ?_
    rintro _ _ ⟨rfl, rfl⟩ -
    refine Ev_in ?_
    repeat' (first
    | (with_reducible apply W_seq_k; intro nx hnx)
    | with_reducible apply W_block
    | with_reducible apply W_scope
    | (with_reducible refine W_prune 3629 ?_; simp only [prune_cons, prune_nil, Nat.reducePow, Nat.reduceDiv, Nat.reduceMod, Nat.reduceBEq, cond_true, cond_false]; with_reducible apply W_region_l)
    | ((first | (with_reducible apply WL_op; intro nx hnx) | with_reducible refine Ev_out ?_ | (with_reducible refine pfresh_k hnm fun nm hnm => ?_; (try simp only [List.forall_mem_cons, List.not_mem_nil, false_implies, implies_true, and_true, true_and, ne_eq] at hnm))); try (simp (maxSteps := 2000000) (disch := omega) only [evb, ↓popG_eq, ↓pop.eq_1, ↓List.getElem?_map, ↓List.getElem?_cons_zero, ↓List.getElem?_cons_succ, pbuiltin, opnd, constPV, PState.put, layFrom, List.set, pnck, seqK, blockK, scopeK, pbin, pun, ppick, plen, pldop, pload, pfaddr, piaddr, pindex, pfield, pslice, pbound, pconv, pelems, pextract, pmm, parr, pbuild, pfill, PV.mem?, PV.one, PV.cells, pageq, peqs, peq1, palloc, pbox, pbuildS, pmakes, pstore, pappend, pcopy, pbytes, pmark, psrc, vcells, Value.oneCell', look, upd, del, names, Nat.reduceAdd, Nat.reduceMul, Nat.reduceSub, Nat.reduceLeDiff, Nat.reduceEqDiff, ↓reduceIte, ne_eq, reduceCtorEq, forall_const, times, Value.cells, exists_and_left, exists_eq_left', eq_self, Nat.reduceLT, Int.reduceLT, Int.reduceLE, Int.reduceToNat, Int.reduceAdd, Int.reduceSub, Int.reduceNeg, hnm, Tryd.tf0, Tryd.tf3, Tryd.tf5, Tryd.tf9, Tryd.teq30, Tryd.tf52, Tryd.tf53, Tryd.teq57, Tryd.teq58, Tryd.teq79, Tryd.teq80, Tryd.teq86, Tryd.teq88, Tryd.teq96, Tryd.teq98, Tryd.call52, Tryd.call53, flat_pb]); repeat (refine And.intro (by omega) ?_))
    | ((first | with_reducible apply WL_nil | with_reducible apply W_label | with_reducible apply W_skip | with_reducible apply W_exit | with_reducible apply W_ret); try simp only [seqK, blockK, scopeK, ↓reduceIte, Nat.reduceEqDiff])
    | (with_reducible apply W_cond_k; intro _ _ ea eb; (simp only [condK, not_true_eq_false, not_false_eq_true, opnd, constPV, List.getD_cons_zero, List.getD_cons_succ, fr_getD_cons, fr_getD_nil, Nat.reduceEqDiff, Nat.reduceLT, ↓reduceIte, hcb, reduceCtorEq, false_implies, true_implies, forall_const, bne_iff_ne, beq_iff_eq, ne_eq]); subst ea eb; first | (refine ⟨fun hc => ?_, fun hc => ?_⟩ <;> first | (exfalso; omega) | (exfalso; exact hc trivial) | skip) | skip)
    | (with_reducible apply hnx; clear hnx nx)
    | (with_reducible refine And.intro (by omega) ?_)
    | (with_reducible refine And.intro ?_ ?_)
    | (clear hnx nx; with_reducible apply hnx; clear hnx nx)
    | (clear hnx nx; clear hnx nx; with_reducible apply hnx; clear hnx nx)
    | (clear hnx nx; clear hnx nx; clear hnx nx; with_reducible apply hnx; clear hnx nx))
    all_goals first
      | (refine hlp _ (l.length - (i + 1)) _ (by omega) ?_ ⟨i + 1, nm, by omega, rfl, rfl⟩
         rw [preE_succ bytesB l i hi, List.length_append, List.map_append]
         exact Wk_fr (by simp only [List.forall_mem_cons, List.not_mem_nil, false_implies, implies_true, and_true, true_and, and_self, fr_getD_cons, fr_getD_nil, Nat.reduceEqDiff, Nat.reduceLT, ↓reduceIte, Int.natCast_add, Int.cast_ofNat_Int, Int.natCast_zero]) ⟨by simp, by simp [names]⟩)
  · repeat' (first
    | (with_reducible apply W_seq_k; intro nx hnx)
    | with_reducible apply W_block
    | with_reducible apply W_scope
    | (with_reducible refine W_prune 3629 ?_; simp only [prune_cons, prune_nil, Nat.reducePow, Nat.reduceDiv, Nat.reduceMod, Nat.reduceBEq, cond_true, cond_false]; with_reducible apply W_region_l)
    | ((first | (with_reducible apply WL_op; intro nx hnx) | with_reducible refine Ev_out ?_ | (with_reducible refine pfresh_k hnm fun nm hnm => ?_; (try simp only [List.forall_mem_cons, List.not_mem_nil, false_implies, implies_true, and_true, true_and, ne_eq] at hnm))); try (simp (maxSteps := 2000000) (disch := omega) only [evb, ↓popG_eq, ↓pop.eq_1, ↓List.getElem?_map, ↓List.getElem?_cons_zero, ↓List.getElem?_cons_succ, pbuiltin, opnd, constPV, PState.put, layFrom, List.set, pnck, seqK, blockK, scopeK, pbin, pun, ppick, plen, pldop, pload, pfaddr, piaddr, pindex, pfield, pslice, pbound, pconv, pelems, pextract, pmm, parr, pbuild, pfill, PV.mem?, PV.one, PV.cells, pageq, peqs, peq1, palloc, pbox, pbuildS, pmakes, pstore, pappend, pcopy, pbytes, pmark, psrc, vcells, Value.oneCell', look, upd, del, names, Nat.reduceAdd, Nat.reduceMul, Nat.reduceSub, Nat.reduceLeDiff, Nat.reduceEqDiff, ↓reduceIte, ne_eq, reduceCtorEq, forall_const, times, Value.cells, exists_and_left, exists_eq_left', eq_self, Nat.reduceLT, Int.reduceLT, Int.reduceLE, Int.reduceToNat, Int.reduceAdd, Int.reduceSub, Int.reduceNeg, hnm, Tryd.tf0, Tryd.tf3, Tryd.tf5, Tryd.tf9, Tryd.teq30, Tryd.tf52, Tryd.tf53, Tryd.teq57, Tryd.teq58, Tryd.teq79, Tryd.teq80, Tryd.teq86, Tryd.teq88, Tryd.teq96, Tryd.teq98, Tryd.call52, Tryd.call53]); repeat (refine And.intro (by omega) ?_))
    | ((first | with_reducible apply WL_nil | with_reducible apply W_label | with_reducible apply W_skip | with_reducible apply W_exit | with_reducible apply W_ret); try simp only [seqK, blockK, scopeK, ↓reduceIte, Nat.reduceEqDiff])
    | (with_reducible apply W_cond_k; intro _ _ ea eb; (simp only [condK, not_true_eq_false, not_false_eq_true, opnd, constPV, List.getD_cons_zero, List.getD_cons_succ, fr_getD_cons, fr_getD_nil, Nat.reduceEqDiff, Nat.reduceLT, ↓reduceIte, hcb, reduceCtorEq, false_implies, true_implies, forall_const, bne_iff_ne, beq_iff_eq, ne_eq]); subst ea eb; first | (refine ⟨fun hc => ?_, fun hc => ?_⟩ <;> first | (exfalso; omega) | (exfalso; exact hc trivial) | skip) | skip)
    | (with_reducible apply hnx; clear hnx nx)
    | (with_reducible refine And.intro (by omega) ?_)
    | (with_reducible refine And.intro ?_ ?_)
    | (clear hnx nx; with_reducible apply hnx; clear hnx nx)
    | (clear hnx nx; clear hnx nx; with_reducible apply hnx; clear hnx nx)
    | (clear hnx nx; clear hnx nx; clear hnx nx; with_reducible apply hnx; clear hnx nx))
    all_goals first
      | (exfalso
         omega)
      | (refine hfin _ _ (Fin_ret1 rfl (Sub_refl (by simp [names])) ?_); simp only [List.getD_cons_zero, List.getD_cons_succ, fr_getD_cons, fr_getD_nil, Nat.reduceEqDiff, Nat.reduceLT, ↓reduceIte]
         rw [preE_all bytesB l i (by omega)]
         exact ⟨N, rfl, rfl⟩)
theorem wstrs_c (G : Globs) (l : List (List UInt8)) (hv : ∀ s ∈ l, s.length ≤ 4294967296) (hl : (encL bytesB l).length ≤ 4294967296) (hl2 : l.length ≤ 4294967296) : PCalls Tryd.prog G 33 [.list 1 (l.map pstr)] [] (fun res H => res = .list 1 ((encL bytesB l).map pbyte) ∧ H = []) := RowB.frz (wstrs_r G l hv hl hl2)
end Go.PM

namespace Go.PM
open Go.Proofs
attribute [local irreducible] W PCalls pcall pcallI WL
/-- the number of a date, and what is wrong with it -/
def dayF (y m d : Int) : Int × Int := if okD y m d then (dayN y m d, 0) else (0, 5)
theorem cumM_le (y : Int) {m : Int} (h1 : 1 ≤ m) (h2 : m ≤ 13) : 0 ≤ cumM y m ∧ cumM y m ≤ 366 := by
  have a := cumM_mono y (m := 1) (k := m) (by omega) h1 h2
  have b := cumM_mono y (m := m) (k := 13) h1 h2 (by omega)
  rw [cumM_one] at a
  rw [cumM_13] at b
  have := yearL_two y
  omega
set_option maxRecDepth 100000 in
set_option maxHeartbeats 8000000 in
theorem day_c (G : Globs) (hG : GL G) (y m d : Int) (hy : -9223372036854775808 ≤ y ∧ y ≤ 9223372036854775807) (hm : -9223372036854775808 ≤ m ∧ m ≤ 9223372036854775807) (hd : -9223372036854775808 ≤ d ∧ d ≤ 9223372036854775807) :
    PCalls Tryd.prog G 12 [pint .i64 y, pint .i64 m, pint .i64 d] [] (fun res H => res = .tuple [pint .i64 (dayF y m d).1, pint .i64 (dayF y m d).2] ∧ H = []) := by
  by_cases hv : 1 ≤ y ∧ y ≤ 2800 ∧ 1 ≤ m ∧ m ≤ 12
  · obtain ⟨h1, h2, h3, h4⟩ := hv
    have c1 := len_c G hG y m (by omega) (by omega) (by omega) (by omega)
    have c2 := start_c G y (by omega) (by omega)
    have s2 := startI_le (y := y) (by omega) (by omega)
    have l1 := lenM_pos y (m := m) (by omega) (by omega)
    (refine PCalls_f Tryd.func12 rfl Tryd.ntmps12 Tryd.results12 (by simp) fun fin hfin => ?_; have hnm : True := trivial; simp (maxSteps := 2000000) (disch := omega) only [evb, ↓popG_eq, ↓pop.eq_1, ↓List.getElem?_map, ↓List.getElem?_cons_zero, ↓List.getElem?_cons_succ, pbuiltin, opnd, constPV, PState.put, layFrom, List.set, pnck, seqK, blockK, scopeK, pbin, pun, ppick, plen, pldop, pload, pfaddr, piaddr, pindex, pfield, pslice, pbound, pconv, pelems, pextract, pmm, parr, pbuild, pfill, PV.mem?, PV.one, PV.cells, pageq, peqs, peq1, palloc, pbox, pbuildS, pmakes, pstore, pappend, pcopy, pbytes, pmark, psrc, vcells, Value.oneCell', look, upd, del, names, Nat.reduceAdd, Nat.reduceMul, Nat.reduceSub, Nat.reduceLeDiff, Nat.reduceEqDiff, ↓reduceIte, ne_eq, reduceCtorEq, forall_const, times, Value.cells, exists_and_left, exists_eq_left', eq_self, Nat.reduceLT, Int.reduceLT, Int.reduceLE, Int.reduceToNat, Int.reduceAdd, Int.reduceSub, Int.reduceNeg, hnm, Tryd.tf3, Tryd.tf4, Tryd.tf22, Tryd.teq30, Tryd.teq57, Tryd.teq58, Tryd.teq79, Tryd.teq80, Tryd.teq86, Tryd.teq88, Tryd.teq96, Tryd.teq98, Tryd.call36, Tryd.call37])
    repeat' (first
    | (with_reducible apply W_seq_k; intro nx hnx)
    | with_reducible apply W_block
    | with_reducible apply W_scope
    | (with_reducible refine W_prune 967 ?_; simp only [prune_cons, prune_nil, Nat.reducePow, Nat.reduceDiv, Nat.reduceMod, Nat.reduceBEq, cond_true, cond_false]; with_reducible apply W_region_l)
    | ((first | (with_reducible apply WL_op; intro nx hnx) | with_reducible refine Ev_out ?_); try (simp (maxSteps := 2000000) (disch := omega) only [evb, ↓popG_eq, ↓pop.eq_1, ↓List.getElem?_map, ↓List.getElem?_cons_zero, ↓List.getElem?_cons_succ, pbuiltin, opnd, constPV, PState.put, layFrom, List.set, pnck, seqK, blockK, scopeK, pbin, pun, ppick, plen, pldop, pload, pfaddr, piaddr, pindex, pfield, pslice, pbound, pconv, pelems, pextract, pmm, parr, pbuild, pfill, PV.mem?, PV.one, PV.cells, pageq, peqs, peq1, palloc, pbox, pbuildS, pmakes, pstore, pappend, pcopy, pbytes, pmark, psrc, vcells, Value.oneCell', look, upd, del, names, Nat.reduceAdd, Nat.reduceMul, Nat.reduceSub, Nat.reduceLeDiff, Nat.reduceEqDiff, ↓reduceIte, ne_eq, reduceCtorEq, forall_const, times, Value.cells, exists_and_left, exists_eq_left', eq_self, Nat.reduceLT, Int.reduceLT, Int.reduceLE, Int.reduceToNat, Int.reduceAdd, Int.reduceSub, Int.reduceNeg, hnm, Tryd.tf3, Tryd.tf4, Tryd.tf22, Tryd.teq30, Tryd.teq57, Tryd.teq58, Tryd.teq79, Tryd.teq80, Tryd.teq86, Tryd.teq88, Tryd.teq96, Tryd.teq98, Tryd.call36, Tryd.call37]); repeat (refine And.intro (by omega) ?_))
    | ((first | with_reducible apply WL_nil | with_reducible apply W_label | with_reducible apply W_skip | with_reducible apply W_exit | with_reducible apply W_ret); try simp only [seqK, blockK, scopeK, ↓reduceIte, Nat.reduceEqDiff])
    | (with_reducible apply pguard_intro <;> (intro hc; (try simp only [hcb, reduceCtorEq, false_implies, true_implies, forall_const, bne_iff_ne, beq_iff_eq, ne_eq] at hc); first | (exfalso; omega) | (exfalso; exact hc trivial) | refine Ev_in ?_))
    | (with_reducible apply W_cond_k; intro _ _ ea eb; (simp only [condK, not_true_eq_false, not_false_eq_true, opnd, constPV, List.getD_cons_zero, List.getD_cons_succ, fr_getD_cons, fr_getD_nil, Nat.reduceEqDiff, Nat.reduceLT, ↓reduceIte, hcb, reduceCtorEq, false_implies, true_implies, forall_const, bne_iff_ne, beq_iff_eq, ne_eq]); subst ea eb; first | (refine ⟨fun hc => ?_, fun hc => ?_⟩ <;> first | (exfalso; omega) | (exfalso; exact hc trivial) | skip) | skip)
    | (with_reducible apply hnx; clear hnx nx)
    | (with_reducible refine And.intro (by omega) ?_)
    | (with_reducible refine And.intro ?_ ?_)
    | (with_reducible refine pcall_k (c1) ?_; rintro _ _ ⟨rfl, rfl⟩ -; refine Ev_in ?_)
    | (with_reducible refine pcall_k (c2) ?_; rintro _ _ ⟨rfl, rfl⟩ -; refine Ev_in ?_)
    | (clear hnx nx; with_reducible apply hnx; clear hnx nx)
    | (clear hnx nx; clear hnx nx; with_reducible apply hnx; clear hnx nx)
    | (clear hnx nx; clear hnx nx; clear hnx nx; with_reducible apply hnx; clear hnx nx))
    all_goals first
      | (exfalso
         omega)
      | (refine hfin _ _ (Fin_ret2 rfl rfl (Sub_nil _) ?_); simp only [List.getD_cons_zero, List.getD_cons_succ, fr_getD_cons, fr_getD_nil, Nat.reduceEqDiff, Nat.reduceLT, ↓reduceIte]
         rw [dayF, if_neg (by unfold okD; omega)]
         exact ⟨rfl, trivial⟩)
      | skip
    have hok : okD y m d := by unfold okD; omega
    refine W_loop_k (fun k τ => ∃ j : Int, 1 ≤ j ∧ j ≤ m ∧ k = (m - j).toNat ∧ τ = ⟨fr 51 [(0, pint .i64 y), (1, pint .i64 m), (8, pint .i64 (startI y + d - 1 + cumM y j)), (9, pint .i64 j)], []⟩) (m - 1).toNat ⟨fr 51 [(0, pint .i64 y), (1, pint .i64 m), (8, pint .i64 (startI y + d - 1 + cumM y 1)), (9, pint .i64 1)], []⟩ (by
      rw [cumM_one, Int.add_zero]
      exact Wk_fr (by simp only [List.forall_mem_cons, List.not_mem_nil, false_implies, implies_true, and_true, true_and, and_self, fr_getD_cons, fr_getD_nil, Nat.reduceEqDiff, Nat.reduceLT, ↓reduceIte, Int.natCast_add, Int.cast_ofNat_Int, Int.natCast_zero]) (Sub_nil _)) ⟨1, by omega, by omega, rfl, rfl⟩ ?_
    rintro k τ ⟨j, hj1, hj2, rfl, rfl⟩ lp hlp
    have cj := cumM_le y (m := j) (by omega) (by omega)
    by_cases hjm : j < m
    · have c3 := len_c G hG y j (by omega) (by omega) (by omega) (by omega)
      have l3 := lenM_pos y (m := j) (by omega) (by omega)
      have e3 : startI y + d - 1 + cumM y j + lenM y j = startI y + d - 1 + cumM y (j + 1) := by rw [cumM_succ y (by omega) (by omega)]; omega
      repeat' (first
    | (with_reducible apply W_seq_k; intro nx hnx)
    | with_reducible apply W_block
    | with_reducible apply W_scope
    | (with_reducible refine W_prune 967 ?_; simp only [prune_cons, prune_nil, Nat.reducePow, Nat.reduceDiv, Nat.reduceMod, Nat.reduceBEq, cond_true, cond_false]; with_reducible apply W_region_l)
    | ((first | (with_reducible apply WL_op; intro nx hnx) | with_reducible refine Ev_out ?_); try (simp (maxSteps := 2000000) (disch := omega) only [evb, ↓popG_eq, ↓pop.eq_1, ↓List.getElem?_map, ↓List.getElem?_cons_zero, ↓List.getElem?_cons_succ, pbuiltin, opnd, constPV, PState.put, layFrom, List.set, pnck, seqK, blockK, scopeK, pbin, pun, ppick, plen, pldop, pload, pfaddr, piaddr, pindex, pfield, pslice, pbound, pconv, pelems, pextract, pmm, parr, pbuild, pfill, PV.mem?, PV.one, PV.cells, pageq, peqs, peq1, palloc, pbox, pbuildS, pmakes, pstore, pappend, pcopy, pbytes, pmark, psrc, vcells, Value.oneCell', look, upd, del, names, Nat.reduceAdd, Nat.reduceMul, Nat.reduceSub, Nat.reduceLeDiff, Nat.reduceEqDiff, ↓reduceIte, ne_eq, reduceCtorEq, forall_const, times, Value.cells, exists_and_left, exists_eq_left', eq_self, Nat.reduceLT, Int.reduceLT, Int.reduceLE, Int.reduceToNat, Int.reduceAdd, Int.reduceSub, Int.reduceNeg, hnm, Tryd.tf3, Tryd.tf4, Tryd.tf22, Tryd.teq30, Tryd.teq57, Tryd.teq58, Tryd.teq79, Tryd.teq80, Tryd.teq86, Tryd.teq88, Tryd.teq96, Tryd.teq98, Tryd.call36, Tryd.call37, e3]); repeat (refine And.intro (by omega) ?_))
    | ((first | with_reducible apply WL_nil | with_reducible apply W_label | with_reducible apply W_skip | with_reducible apply W_exit | with_reducible apply W_ret); try simp only [seqK, blockK, scopeK, ↓reduceIte, Nat.reduceEqDiff])
    | (with_reducible apply pguard_intro <;> (intro hc; (try simp only [hcb, reduceCtorEq, false_implies, true_implies, forall_const, bne_iff_ne, beq_iff_eq, ne_eq] at hc); first | (exfalso; omega) | (exfalso; exact hc trivial) | refine Ev_in ?_))
    | (with_reducible apply W_cond_k; intro _ _ ea eb; (simp only [condK, not_true_eq_false, not_false_eq_true, opnd, constPV, List.getD_cons_zero, List.getD_cons_succ, fr_getD_cons, fr_getD_nil, Nat.reduceEqDiff, Nat.reduceLT, ↓reduceIte, hcb, reduceCtorEq, false_implies, true_implies, forall_const, bne_iff_ne, beq_iff_eq, ne_eq]); subst ea eb; first | (refine ⟨fun hc => ?_, fun hc => ?_⟩ <;> first | (exfalso; omega) | (exfalso; exact hc trivial) | skip) | skip)
    | (with_reducible apply hnx; clear hnx nx)
    | (with_reducible refine And.intro (by omega) ?_)
    | (with_reducible refine And.intro ?_ ?_)
    | (with_reducible refine pcall_k (c3) ?_; rintro _ _ ⟨rfl, rfl⟩ -; refine Ev_in ?_)
    | (clear hnx nx; with_reducible apply hnx; clear hnx nx)
    | (clear hnx nx; clear hnx nx; with_reducible apply hnx; clear hnx nx)
    | (clear hnx nx; clear hnx nx; clear hnx nx; with_reducible apply hnx; clear hnx nx))
      all_goals first
        | (exfalso
           omega)
        | skip
      refine hlp _ (m - (j + 1)).toNat _ (by omega) ?_ ⟨j + 1, by omega, by omega, rfl, rfl⟩
      exact Wk_fr (by simp only [List.forall_mem_cons, List.not_mem_nil, false_implies, implies_true, and_true, true_and, and_self, fr_getD_cons, fr_getD_nil, Nat.reduceEqDiff, Nat.reduceLT, ↓reduceIte, Int.natCast_add, Int.cast_ofNat_Int, Int.natCast_zero]) (Sub_nil _)
    · have hjm : j = m := by omega
      subst hjm
      have e4 : startI y + d - 1 + cumM y j = dayN y j d := by unfold dayN; omega
      repeat' (first
    | (with_reducible apply W_seq_k; intro nx hnx)
    | with_reducible apply W_block
    | with_reducible apply W_scope
    | (with_reducible refine W_prune 967 ?_; simp only [prune_cons, prune_nil, Nat.reducePow, Nat.reduceDiv, Nat.reduceMod, Nat.reduceBEq, cond_true, cond_false]; with_reducible apply W_region_l)
    | ((first | (with_reducible apply WL_op; intro nx hnx) | with_reducible refine Ev_out ?_); try (simp (maxSteps := 2000000) (disch := omega) only [evb, ↓popG_eq, ↓pop.eq_1, ↓List.getElem?_map, ↓List.getElem?_cons_zero, ↓List.getElem?_cons_succ, pbuiltin, opnd, constPV, PState.put, layFrom, List.set, pnck, seqK, blockK, scopeK, pbin, pun, ppick, plen, pldop, pload, pfaddr, piaddr, pindex, pfield, pslice, pbound, pconv, pelems, pextract, pmm, parr, pbuild, pfill, PV.mem?, PV.one, PV.cells, pageq, peqs, peq1, palloc, pbox, pbuildS, pmakes, pstore, pappend, pcopy, pbytes, pmark, psrc, vcells, Value.oneCell', look, upd, del, names, Nat.reduceAdd, Nat.reduceMul, Nat.reduceSub, Nat.reduceLeDiff, Nat.reduceEqDiff, ↓reduceIte, ne_eq, reduceCtorEq, forall_const, times, Value.cells, exists_and_left, exists_eq_left', eq_self, Nat.reduceLT, Int.reduceLT, Int.reduceLE, Int.reduceToNat, Int.reduceAdd, Int.reduceSub, Int.reduceNeg, hnm, Tryd.tf3, Tryd.tf4, Tryd.tf22, Tryd.teq30, Tryd.teq57, Tryd.teq58, Tryd.teq79, Tryd.teq80, Tryd.teq86, Tryd.teq88, Tryd.teq96, Tryd.teq98, Tryd.call36, Tryd.call37, e4]); repeat (refine And.intro (by omega) ?_))
    | ((first | with_reducible apply WL_nil | with_reducible apply W_label | with_reducible apply W_skip | with_reducible apply W_exit | with_reducible apply W_ret); try simp only [seqK, blockK, scopeK, ↓reduceIte, Nat.reduceEqDiff])
    | (with_reducible apply pguard_intro <;> (intro hc; (try simp only [hcb, reduceCtorEq, false_implies, true_implies, forall_const, bne_iff_ne, beq_iff_eq, ne_eq] at hc); first | (exfalso; omega) | (exfalso; exact hc trivial) | refine Ev_in ?_))
    | (with_reducible apply W_cond_k; intro _ _ ea eb; (simp only [condK, not_true_eq_false, not_false_eq_true, opnd, constPV, List.getD_cons_zero, List.getD_cons_succ, fr_getD_cons, fr_getD_nil, Nat.reduceEqDiff, Nat.reduceLT, ↓reduceIte, hcb, reduceCtorEq, false_implies, true_implies, forall_const, bne_iff_ne, beq_iff_eq, ne_eq]); subst ea eb; first | (refine ⟨fun hc => ?_, fun hc => ?_⟩ <;> first | (exfalso; omega) | (exfalso; exact hc trivial) | skip) | skip)
    | (with_reducible apply hnx; clear hnx nx)
    | (with_reducible refine And.intro (by omega) ?_)
    | (with_reducible refine And.intro ?_ ?_)
    | (clear hnx nx; with_reducible apply hnx; clear hnx nx)
    | (clear hnx nx; clear hnx nx; with_reducible apply hnx; clear hnx nx)
    | (clear hnx nx; clear hnx nx; clear hnx nx; with_reducible apply hnx; clear hnx nx))
      all_goals first
        | (exfalso
           omega)
        | (refine hfin _ _ (Fin_ret2 rfl rfl (Sub_nil _) ?_); simp only [List.getD_cons_zero, List.getD_cons_succ, fr_getD_cons, fr_getD_nil, Nat.reduceEqDiff, Nat.reduceLT, ↓reduceIte]
           rw [dayF, if_pos hok]
           exact ⟨rfl, trivial⟩)
  · (refine PCalls_f Tryd.func12 rfl Tryd.ntmps12 Tryd.results12 (by simp) fun fin hfin => ?_; have hnm : True := trivial; simp (maxSteps := 2000000) (disch := omega) only [evb, ↓popG_eq, ↓pop.eq_1, ↓List.getElem?_map, ↓List.getElem?_cons_zero, ↓List.getElem?_cons_succ, pbuiltin, opnd, constPV, PState.put, layFrom, List.set, pnck, seqK, blockK, scopeK, pbin, pun, ppick, plen, pldop, pload, pfaddr, piaddr, pindex, pfield, pslice, pbound, pconv, pelems, pextract, pmm, parr, pbuild, pfill, PV.mem?, PV.one, PV.cells, pageq, peqs, peq1, palloc, pbox, pbuildS, pmakes, pstore, pappend, pcopy, pbytes, pmark, psrc, vcells, Value.oneCell', look, upd, del, names, Nat.reduceAdd, Nat.reduceMul, Nat.reduceSub, Nat.reduceLeDiff, Nat.reduceEqDiff, ↓reduceIte, ne_eq, reduceCtorEq, forall_const, times, Value.cells, exists_and_left, exists_eq_left', eq_self, Nat.reduceLT, Int.reduceLT, Int.reduceLE, Int.reduceToNat, Int.reduceAdd, Int.reduceSub, Int.reduceNeg, hnm, Tryd.tf3, Tryd.tf4, Tryd.tf22, Tryd.teq30, Tryd.teq57, Tryd.teq58, Tryd.teq79, Tryd.teq80, Tryd.teq86, Tryd.teq88, Tryd.teq96, Tryd.teq98, Tryd.call36, Tryd.call37])
    repeat' (first
    | (with_reducible apply W_seq_k; intro nx hnx)
    | with_reducible apply W_block
    | with_reducible apply W_scope
    | (with_reducible refine W_prune 967 ?_; simp only [prune_cons, prune_nil, Nat.reducePow, Nat.reduceDiv, Nat.reduceMod, Nat.reduceBEq, cond_true, cond_false]; with_reducible apply W_region_l)
    | ((first | (with_reducible apply WL_op; intro nx hnx) | with_reducible refine Ev_out ?_); try (simp (maxSteps := 2000000) (disch := omega) only [evb, ↓popG_eq, ↓pop.eq_1, ↓List.getElem?_map, ↓List.getElem?_cons_zero, ↓List.getElem?_cons_succ, pbuiltin, opnd, constPV, PState.put, layFrom, List.set, pnck, seqK, blockK, scopeK, pbin, pun, ppick, plen, pldop, pload, pfaddr, piaddr, pindex, pfield, pslice, pbound, pconv, pelems, pextract, pmm, parr, pbuild, pfill, PV.mem?, PV.one, PV.cells, pageq, peqs, peq1, palloc, pbox, pbuildS, pmakes, pstore, pappend, pcopy, pbytes, pmark, psrc, vcells, Value.oneCell', look, upd, del, names, Nat.reduceAdd, Nat.reduceMul, Nat.reduceSub, Nat.reduceLeDiff, Nat.reduceEqDiff, ↓reduceIte, ne_eq, reduceCtorEq, forall_const, times, Value.cells, exists_and_left, exists_eq_left', eq_self, Nat.reduceLT, Int.reduceLT, Int.reduceLE, Int.reduceToNat, Int.reduceAdd, Int.reduceSub, Int.reduceNeg, hnm, Tryd.tf3, Tryd.tf4, Tryd.tf22, Tryd.teq30, Tryd.teq57, Tryd.teq58, Tryd.teq79, Tryd.teq80, Tryd.teq86, Tryd.teq88, Tryd.teq96, Tryd.teq98, Tryd.call36, Tryd.call37]); repeat (refine And.intro (by omega) ?_))
    | ((first | with_reducible apply WL_nil | with_reducible apply W_label | with_reducible apply W_skip | with_reducible apply W_exit | with_reducible apply W_ret); try simp only [seqK, blockK, scopeK, ↓reduceIte, Nat.reduceEqDiff])
    | (with_reducible apply pguard_intro <;> (intro hc; (try simp only [hcb, reduceCtorEq, false_implies, true_implies, forall_const, bne_iff_ne, beq_iff_eq, ne_eq] at hc); first | (exfalso; omega) | (exfalso; exact hc trivial) | refine Ev_in ?_))
    | (with_reducible apply W_cond_k; intro _ _ ea eb; (simp only [condK, not_true_eq_false, not_false_eq_true, opnd, constPV, List.getD_cons_zero, List.getD_cons_succ, fr_getD_cons, fr_getD_nil, Nat.reduceEqDiff, Nat.reduceLT, ↓reduceIte, hcb, reduceCtorEq, false_implies, true_implies, forall_const, bne_iff_ne, beq_iff_eq, ne_eq]); subst ea eb; first | (refine ⟨fun hc => ?_, fun hc => ?_⟩ <;> first | (exfalso; omega) | (exfalso; exact hc trivial) | skip) | skip)
    | (with_reducible apply hnx; clear hnx nx)
    | (with_reducible refine And.intro (by omega) ?_)
    | (with_reducible refine And.intro ?_ ?_)
    | (clear hnx nx; with_reducible apply hnx; clear hnx nx)
    | (clear hnx nx; clear hnx nx; with_reducible apply hnx; clear hnx nx)
    | (clear hnx nx; clear hnx nx; clear hnx nx; with_reducible apply hnx; clear hnx nx))
    all_goals first
      | (exfalso
         omega)
      | (refine hfin _ _ (Fin_ret2 rfl rfl (Sub_nil _) ?_); simp only [List.getD_cons_zero, List.getD_cons_succ, fr_getD_cons, fr_getD_nil, Nat.reduceEqDiff, Nat.reduceLT, ↓reduceIte]
         rw [dayF, if_neg (by unfold okD; omega)]
         exact ⟨rfl, trivial⟩)
end Go.PM

namespace Go.PM
open Go.Proofs
attribute [local irreducible] W PCalls pcall pcallI WL
theorem Fin_ret4 {P : Program} {t u v s : Tmp} {R : PV → Heap → Prop} {σ : PState} {p q r w : PV} {H : Heap} (h1 : σ.frame.getD t .junk = p) (h2 : σ.frame.getD u .junk = q) (h3 : σ.frame.getD v .junk = r) (h4 : σ.frame.getD s .junk = w) (h5 : Sub H σ.heap) (h6 : R (.tuple [p, q, r, w]) H) :
    Fin P [.tmp t, .tmp u, .tmp v, .tmp s] R .ret σ :=
  Fin_ret (show PResult P σ [.tmp t, .tmp u, .tmp v, .tmp s] (.tuple [p, q, r, w]) from ⟨[p, q, r, w], ⟨h1.symm, h2.symm, h3.symm, h4.symm, trivial⟩, rfl⟩) h5 h6
/-- what Date returns -/
def dateT (n : Int) : PV := if 1 ≤ n ∧ n ≤ 1022679 then .tuple [pint .i64 (dY n), pint .i64 (dM n), pint .i64 (dD n), pint .i64 0] else .tuple [pint .i64 0, pint .i64 0, pint .i64 0, pint .i64 5]
theorem dateT_eq {y m d n : Int} (h : okD y m d) (e : dayN y m d = n) (h1 : 1 ≤ n) (h2 : n ≤ 1022679) : dateT n = .tuple [pint .i64 y, pint .i64 m, pint .i64 d, pint .i64 0] := by
  obtain ⟨a, b, c⟩ := date_eq h e
  rw [dateT, if_pos ⟨h1, h2⟩, a, b, c]
theorem yr_le {y n : Int} (h1 : startI y ≤ n) (h2 : n ≤ 1022679) : y ≤ 2800 := by
  rcases Int.lt_or_le 2800 y with h | h
  · have := startI_mono (y := 2801) (z := y) (by omega)
    rw [show startI 2801 = 1022680 by rfl] at this
    omega
  · exact h
theorem yr_ge {y n : Int} (h1 : n < startI (y + 1)) (h2 : 1 ≤ n) : 1 ≤ y := by
  rcases Int.lt_or_le y 1 with h | h
  · have := startI_mono (y := y + 1) (z := 1) (by omega)
    rw [show startI 1 = 1 by rfl] at this
    omega
  · exact h
set_option maxRecDepth 100000 in
set_option maxHeartbeats 8000000 in
theorem date_c (G : Globs) (hG : GL G) (n : Int) (hn : -9223372036854775808 ≤ n ∧ n ≤ 9223372036854775807) : PCalls Tryd.prog G 14 [pint .i64 n] [] (fun res H => res = dateT n ∧ H = []) := by
  by_cases hv : 1 ≤ n ∧ n ≤ 1022679
  · have t1 : ((n - 1) * 400).tdiv 146097 = (n - 1) * 400 / 146097 := Int.tdiv_eq_ediv_of_nonneg (by omega)
    obtain ⟨q, hq⟩ : ∃ q, q = (n - 1) * 400 / 146097 := ⟨_, rfl⟩
    rw [← hq] at t1
    have hq1 : 0 ≤ q ∧ q ≤ 2800 := by omega
    have hlo : startI (q + 1 - 1) ≤ n := by
      have a := yearF_lo hv.1
      have b : q ≤ yearF n := by
        unfold yearF
        rw [← hq]
        split
        · omega
        · split <;> omega
      have := startI_mono (y := q + 1 - 1) (z := yearF n) (by omega)
      omega
    (refine PCalls_f Tryd.func14 rfl Tryd.ntmps14 Tryd.results14 (by simp) fun fin hfin => ?_; have hnm : True := trivial; simp (maxSteps := 2000000) (disch := omega) only [evb, ↓popG_eq, ↓pop.eq_1, ↓List.getElem?_map, ↓List.getElem?_cons_zero, ↓List.getElem?_cons_succ, pbuiltin, opnd, constPV, PState.put, layFrom, List.set, pnck, seqK, blockK, scopeK, pbin, pun, ppick, plen, pldop, pload, pfaddr, piaddr, pindex, pfield, pslice, pbound, pconv, pelems, pextract, pmm, parr, pbuild, pfill, PV.mem?, PV.one, PV.cells, pageq, peqs, peq1, palloc, pbox, pbuildS, pmakes, pstore, pappend, pcopy, pbytes, pmark, psrc, vcells, Value.oneCell', look, upd, del, names, Nat.reduceAdd, Nat.reduceMul, Nat.reduceSub, Nat.reduceLeDiff, Nat.reduceEqDiff, ↓reduceIte, ne_eq, reduceCtorEq, forall_const, times, Value.cells, exists_and_left, exists_eq_left', eq_self, Nat.reduceLT, Int.reduceLT, Int.reduceLE, Int.reduceToNat, Int.reduceAdd, Int.reduceSub, Int.reduceNeg, hnm, Tryd.tf3, Tryd.tf4, Tryd.tf22, Tryd.teq30, Tryd.teq57, Tryd.teq58, Tryd.teq79, Tryd.teq80, Tryd.teq86, Tryd.teq88, Tryd.teq96, Tryd.teq98, Tryd.call36, Tryd.call37])
    repeat' (first
    | (with_reducible apply W_seq_k; intro nx hnx)
    | with_reducible apply W_block
    | with_reducible apply W_scope
    | (with_reducible refine W_prune 509 ?_; simp only [prune_cons, prune_nil, Nat.reducePow, Nat.reduceDiv, Nat.reduceMod, Nat.reduceBEq, cond_true, cond_false]; with_reducible apply W_region_l)
    | ((first | (with_reducible apply WL_op; intro nx hnx) | with_reducible refine Ev_out ?_); try (simp (maxSteps := 2000000) (disch := omega) only [evb, ↓popG_eq, ↓pop.eq_1, ↓List.getElem?_map, ↓List.getElem?_cons_zero, ↓List.getElem?_cons_succ, pbuiltin, opnd, constPV, PState.put, layFrom, List.set, pnck, seqK, blockK, scopeK, pbin, pun, ppick, plen, pldop, pload, pfaddr, piaddr, pindex, pfield, pslice, pbound, pconv, pelems, pextract, pmm, parr, pbuild, pfill, PV.mem?, PV.one, PV.cells, pageq, peqs, peq1, palloc, pbox, pbuildS, pmakes, pstore, pappend, pcopy, pbytes, pmark, psrc, vcells, Value.oneCell', look, upd, del, names, Nat.reduceAdd, Nat.reduceMul, Nat.reduceSub, Nat.reduceLeDiff, Nat.reduceEqDiff, ↓reduceIte, ne_eq, reduceCtorEq, forall_const, times, Value.cells, exists_and_left, exists_eq_left', eq_self, Nat.reduceLT, Int.reduceLT, Int.reduceLE, Int.reduceToNat, Int.reduceAdd, Int.reduceSub, Int.reduceNeg, hnm, Tryd.tf3, Tryd.tf4, Tryd.tf22, Tryd.teq30, Tryd.teq57, Tryd.teq58, Tryd.teq79, Tryd.teq80, Tryd.teq86, Tryd.teq88, Tryd.teq96, Tryd.teq98, Tryd.call36, Tryd.call37, t1]); repeat (refine And.intro (by omega) ?_))
    | ((first | with_reducible apply WL_nil | with_reducible apply W_label | with_reducible apply W_skip | with_reducible apply W_exit | with_reducible apply W_ret); try simp only [seqK, blockK, scopeK, ↓reduceIte, Nat.reduceEqDiff])
    | (with_reducible apply pguard_intro <;> (intro hc; (try simp only [hcb, reduceCtorEq, false_implies, true_implies, forall_const, bne_iff_ne, beq_iff_eq, ne_eq] at hc); first | (exfalso; omega) | (exfalso; exact hc trivial) | refine Ev_in ?_))
    | (with_reducible apply W_cond_k; intro _ _ ea eb; (simp only [condK, not_true_eq_false, not_false_eq_true, opnd, constPV, List.getD_cons_zero, List.getD_cons_succ, fr_getD_cons, fr_getD_nil, Nat.reduceEqDiff, Nat.reduceLT, ↓reduceIte, hcb, reduceCtorEq, false_implies, true_implies, forall_const, bne_iff_ne, beq_iff_eq, ne_eq]); subst ea eb; first | (refine ⟨fun hc => ?_, fun hc => ?_⟩ <;> first | (exfalso; omega) | (exfalso; exact hc trivial) | skip) | skip)
    | (with_reducible apply hnx; clear hnx nx)
    | (with_reducible refine And.intro (by omega) ?_)
    | (with_reducible refine And.intro ?_ ?_)
    | (clear hnx nx; with_reducible apply hnx; clear hnx nx)
    | (clear hnx nx; clear hnx nx; with_reducible apply hnx; clear hnx nx)
    | (clear hnx nx; clear hnx nx; clear hnx nx; with_reducible apply hnx; clear hnx nx))
    all_goals first
      | (exfalso
         omega)
      | skip
    refine W_loop_k (fun k τ => ∃ y : Int, 1 ≤ y ∧ y ≤ 2802 ∧ (n < startI y → 1 ≤ y - 1 ∧ startI (y - 1) ≤ n) ∧ k = y.toNat ∧ τ = ⟨fr 53 [(0, pint .i64 n), (6, pint .i64 y)], []⟩) (q + 1).toNat ⟨fr 53 [(0, pint .i64 n), (6, pint .i64 (q + 1))], []⟩ (by
      exact Wk_fr (by simp only [List.forall_mem_cons, List.not_mem_nil, false_implies, implies_true, and_true, true_and, and_self, fr_getD_cons, fr_getD_nil, Nat.reduceEqDiff, Nat.reduceLT, ↓reduceIte, Int.natCast_add, Int.cast_ofNat_Int, Int.natCast_zero]) (Sub_nil _)) ⟨q + 1, by omega, by omega, ?_, rfl, rfl⟩ ?_
    · intro h
      refine ⟨?_, hlo⟩
      exact yr_ge (y := q + 1 - 1) (by rw [show q + 1 - 1 + 1 = q + 1 by omega]; exact h) hv.1
    clear hlo hq1 t1 hq q
    rintro k τ ⟨y, hy1, hy2, hyl, rfl, rfl⟩ lp hlp
    have c1 := start_c G y (by omega) (by omega)
    have s1 := startI_le (y := y) (by omega) (by omega)
    repeat' (first
    | (with_reducible apply W_seq_k; intro nx hnx)
    | with_reducible apply W_block
    | with_reducible apply W_scope
    | (with_reducible refine W_prune 509 ?_; simp only [prune_cons, prune_nil, Nat.reducePow, Nat.reduceDiv, Nat.reduceMod, Nat.reduceBEq, cond_true, cond_false]; with_reducible apply W_region_l)
    | ((first | (with_reducible apply WL_op; intro nx hnx) | with_reducible refine Ev_out ?_); try (simp (maxSteps := 2000000) (disch := omega) only [evb, ↓popG_eq, ↓pop.eq_1, ↓List.getElem?_map, ↓List.getElem?_cons_zero, ↓List.getElem?_cons_succ, pbuiltin, opnd, constPV, PState.put, layFrom, List.set, pnck, seqK, blockK, scopeK, pbin, pun, ppick, plen, pldop, pload, pfaddr, piaddr, pindex, pfield, pslice, pbound, pconv, pelems, pextract, pmm, parr, pbuild, pfill, PV.mem?, PV.one, PV.cells, pageq, peqs, peq1, palloc, pbox, pbuildS, pmakes, pstore, pappend, pcopy, pbytes, pmark, psrc, vcells, Value.oneCell', look, upd, del, names, Nat.reduceAdd, Nat.reduceMul, Nat.reduceSub, Nat.reduceLeDiff, Nat.reduceEqDiff, ↓reduceIte, ne_eq, reduceCtorEq, forall_const, times, Value.cells, exists_and_left, exists_eq_left', eq_self, Nat.reduceLT, Int.reduceLT, Int.reduceLE, Int.reduceToNat, Int.reduceAdd, Int.reduceSub, Int.reduceNeg, hnm, Tryd.tf3, Tryd.tf4, Tryd.tf22, Tryd.teq30, Tryd.teq57, Tryd.teq58, Tryd.teq79, Tryd.teq80, Tryd.teq86, Tryd.teq88, Tryd.teq96, Tryd.teq98, Tryd.call36, Tryd.call37]); repeat (refine And.intro (by omega) ?_))
    | ((first | with_reducible apply WL_nil | with_reducible apply W_label | with_reducible apply W_skip | with_reducible apply W_exit | with_reducible apply W_ret); try simp only [seqK, blockK, scopeK, ↓reduceIte, Nat.reduceEqDiff])
    | (with_reducible apply pguard_intro <;> (intro hc; (try simp only [hcb, reduceCtorEq, false_implies, true_implies, forall_const, bne_iff_ne, beq_iff_eq, ne_eq] at hc); first | (exfalso; omega) | (exfalso; exact hc trivial) | refine Ev_in ?_))
    | (with_reducible apply W_cond_k; intro _ _ ea eb; (simp only [condK, not_true_eq_false, not_false_eq_true, opnd, constPV, List.getD_cons_zero, List.getD_cons_succ, fr_getD_cons, fr_getD_nil, Nat.reduceEqDiff, Nat.reduceLT, ↓reduceIte, hcb, reduceCtorEq, false_implies, true_implies, forall_const, bne_iff_ne, beq_iff_eq, ne_eq]); subst ea eb; first | (refine ⟨fun hc => ?_, fun hc => ?_⟩ <;> first | (exfalso; omega) | (exfalso; exact hc trivial) | skip) | skip)
    | (with_reducible apply hnx; clear hnx nx)
    | (with_reducible refine And.intro (by omega) ?_)
    | (with_reducible refine And.intro ?_ ?_)
    | (with_reducible refine pcall_k (c1) ?_; rintro _ _ ⟨rfl, rfl⟩ -; refine Ev_in ?_)
    | (clear hnx nx; with_reducible apply hnx; clear hnx nx)
    | (clear hnx nx; clear hnx nx; with_reducible apply hnx; clear hnx nx)
    | (clear hnx nx; clear hnx nx; clear hnx nx; with_reducible apply hnx; clear hnx nx))
    all_goals first
      | (exfalso
         omega)
      | skip
    · have hz := hyl (by omega)
      refine hlp _ (y - 1).toNat _ (by omega) ?_ ⟨y - 1, by omega, by omega, fun h => by omega, rfl, rfl⟩
      exact Wk_fr (by simp only [List.forall_mem_cons, List.not_mem_nil, false_implies, implies_true, and_true, true_and, and_self, fr_getD_cons, fr_getD_nil, Nat.reduceEqDiff, Nat.reduceLT, ↓reduceIte, Int.natCast_add, Int.cast_ofNat_Int, Int.natCast_zero]) (Sub_nil _)
    · clear hyl lp hlp c1 s1
      have hys : startI y ≤ n := by omega
      refine W_loop_k (fun k τ => ∃ y : Int, 1 ≤ y ∧ y ≤ 2802 ∧ startI y ≤ n ∧ k = (2802 - y).toNat ∧ τ = ⟨fr 53 [(0, pint .i64 n), (6, pint .i64 y)], []⟩) (2802 - y).toNat ⟨fr 53 [(0, pint .i64 n), (6, pint .i64 y)], []⟩ (by
        exact Wk_fr (by simp only [List.forall_mem_cons, List.not_mem_nil, false_implies, implies_true, and_true, true_and, and_self, fr_getD_cons, fr_getD_nil, Nat.reduceEqDiff, Nat.reduceLT, ↓reduceIte, Int.natCast_add, Int.cast_ofNat_Int, Int.natCast_zero]) (Sub_nil _)) ⟨y, by omega, by omega, hys, rfl, rfl⟩ ?_
      clear hys
      rintro k τ ⟨y, hy1, hy2, hys, rfl, rfl⟩ lp hlp
      have hy3 := yr_le hys hv.2
      have c1 := start_c G (y + 1) (by omega) (by omega)
      have c2 := start_c G y (by omega) (by omega)
      have s1 := startI_le (y := y + 1) (by omega) (by omega)
      have s2 := startI_le (y := y) (by omega) (by omega)
      repeat' (first
    | (with_reducible apply W_seq_k; intro nx hnx)
    | with_reducible apply W_block
    | with_reducible apply W_scope
    | (with_reducible refine W_prune 509 ?_; simp only [prune_cons, prune_nil, Nat.reducePow, Nat.reduceDiv, Nat.reduceMod, Nat.reduceBEq, cond_true, cond_false]; with_reducible apply W_region_l)
    | ((first | (with_reducible apply WL_op; intro nx hnx) | with_reducible refine Ev_out ?_); try (simp (maxSteps := 2000000) (disch := omega) only [evb, ↓popG_eq, ↓pop.eq_1, ↓List.getElem?_map, ↓List.getElem?_cons_zero, ↓List.getElem?_cons_succ, pbuiltin, opnd, constPV, PState.put, layFrom, List.set, pnck, seqK, blockK, scopeK, pbin, pun, ppick, plen, pldop, pload, pfaddr, piaddr, pindex, pfield, pslice, pbound, pconv, pelems, pextract, pmm, parr, pbuild, pfill, PV.mem?, PV.one, PV.cells, pageq, peqs, peq1, palloc, pbox, pbuildS, pmakes, pstore, pappend, pcopy, pbytes, pmark, psrc, vcells, Value.oneCell', look, upd, del, names, Nat.reduceAdd, Nat.reduceMul, Nat.reduceSub, Nat.reduceLeDiff, Nat.reduceEqDiff, ↓reduceIte, ne_eq, reduceCtorEq, forall_const, times, Value.cells, exists_and_left, exists_eq_left', eq_self, Nat.reduceLT, Int.reduceLT, Int.reduceLE, Int.reduceToNat, Int.reduceAdd, Int.reduceSub, Int.reduceNeg, hnm, Tryd.tf3, Tryd.tf4, Tryd.tf22, Tryd.teq30, Tryd.teq57, Tryd.teq58, Tryd.teq79, Tryd.teq80, Tryd.teq86, Tryd.teq88, Tryd.teq96, Tryd.teq98, Tryd.call36, Tryd.call37]); repeat (refine And.intro (by omega) ?_))
    | ((first | with_reducible apply WL_nil | with_reducible apply W_label | with_reducible apply W_skip | with_reducible apply W_exit | with_reducible apply W_ret); try simp only [seqK, blockK, scopeK, ↓reduceIte, Nat.reduceEqDiff])
    | (with_reducible apply pguard_intro <;> (intro hc; (try simp only [hcb, reduceCtorEq, false_implies, true_implies, forall_const, bne_iff_ne, beq_iff_eq, ne_eq] at hc); first | (exfalso; omega) | (exfalso; exact hc trivial) | refine Ev_in ?_))
    | (with_reducible apply W_cond_k; intro _ _ ea eb; (simp only [condK, not_true_eq_false, not_false_eq_true, opnd, constPV, List.getD_cons_zero, List.getD_cons_succ, fr_getD_cons, fr_getD_nil, Nat.reduceEqDiff, Nat.reduceLT, ↓reduceIte, hcb, reduceCtorEq, false_implies, true_implies, forall_const, bne_iff_ne, beq_iff_eq, ne_eq]); subst ea eb; first | (refine ⟨fun hc => ?_, fun hc => ?_⟩ <;> first | (exfalso; omega) | (exfalso; exact hc trivial) | skip) | skip)
    | (with_reducible apply hnx; clear hnx nx)
    | (with_reducible refine And.intro (by omega) ?_)
    | (with_reducible refine And.intro ?_ ?_)
    | (with_reducible refine pcall_k (c1) ?_; rintro _ _ ⟨rfl, rfl⟩ -; refine Ev_in ?_)
    | (with_reducible refine pcall_k (c2) ?_; rintro _ _ ⟨rfl, rfl⟩ -; refine Ev_in ?_)
    | (clear hnx nx; with_reducible apply hnx; clear hnx nx)
    | (clear hnx nx; clear hnx nx; with_reducible apply hnx; clear hnx nx)
    | (clear hnx nx; clear hnx nx; clear hnx nx; with_reducible apply hnx; clear hnx nx))
      all_goals first
        | (exfalso
           omega)
        | skip
      · refine hlp _ (2802 - (y + 1)).toNat _ (by omega) ?_ ⟨y + 1, by omega, by omega, by omega, rfl, rfl⟩
        exact Wk_fr (by simp only [List.forall_mem_cons, List.not_mem_nil, false_implies, implies_true, and_true, true_and, and_self, fr_getD_cons, fr_getD_nil, Nat.reduceEqDiff, Nat.reduceLT, ↓reduceIte, Int.natCast_add, Int.cast_ofNat_Int, Int.natCast_zero]) (Sub_nil _)
      · clear hlp lp c1 c2
        have hyn : n < startI (y + 1) := by omega
        rw [startI_succ] at hyn
        refine W_loop_k (fun k τ => ∃ m : Int, 1 ≤ m ∧ m ≤ 12 ∧ cumM y m ≤ n - startI y ∧ k = (13 - m).toNat ∧ τ = ⟨fr 53 [(0, pint .i64 n), (6, pint .i64 y), (7, pint .i64 (n - startI y - cumM y m)), (8, pint .i64 m)], []⟩) 12 ⟨fr 53 [(0, pint .i64 n), (6, pint .i64 y), (7, pint .i64 (n - startI y - cumM y 1)), (8, pint .i64 1)], []⟩ (by
          rw [cumM_one, Int.sub_zero]
          exact Wk_fr (by simp only [List.forall_mem_cons, List.not_mem_nil, false_implies, implies_true, and_true, true_and, and_self, fr_getD_cons, fr_getD_nil, Nat.reduceEqDiff, Nat.reduceLT, ↓reduceIte, Int.natCast_add, Int.cast_ofNat_Int, Int.natCast_zero]) (Sub_nil _)) ⟨1, by omega, by omega, by rw [cumM_one]; omega, rfl, rfl⟩ ?_
        rintro k τ ⟨m, hm1, hm2, hc1, rfl, rfl⟩ lp hlp
        have c1 := len_c G hG y m (by omega) (by omega) (by omega) (by omega)
        have l1 := lenM_pos y (m := m) (by omega) (by omega)
        have u1 := cumM_le y (m := m) (by omega) (by omega)
        have e1 : n - startI y - cumM y m - lenM y m = n - startI y - cumM y (m + 1) := by rw [cumM_succ y hm1 hm2]; omega
        repeat' (first
    | (with_reducible apply W_seq_k; intro nx hnx)
    | with_reducible apply W_block
    | with_reducible apply W_scope
    | (with_reducible refine W_prune 509 ?_; simp only [prune_cons, prune_nil, Nat.reducePow, Nat.reduceDiv, Nat.reduceMod, Nat.reduceBEq, cond_true, cond_false]; with_reducible apply W_region_l)
    | ((first | (with_reducible apply WL_op; intro nx hnx) | with_reducible refine Ev_out ?_); try (simp (maxSteps := 2000000) (disch := omega) only [evb, ↓popG_eq, ↓pop.eq_1, ↓List.getElem?_map, ↓List.getElem?_cons_zero, ↓List.getElem?_cons_succ, pbuiltin, opnd, constPV, PState.put, layFrom, List.set, pnck, seqK, blockK, scopeK, pbin, pun, ppick, plen, pldop, pload, pfaddr, piaddr, pindex, pfield, pslice, pbound, pconv, pelems, pextract, pmm, parr, pbuild, pfill, PV.mem?, PV.one, PV.cells, pageq, peqs, peq1, palloc, pbox, pbuildS, pmakes, pstore, pappend, pcopy, pbytes, pmark, psrc, vcells, Value.oneCell', look, upd, del, names, Nat.reduceAdd, Nat.reduceMul, Nat.reduceSub, Nat.reduceLeDiff, Nat.reduceEqDiff, ↓reduceIte, ne_eq, reduceCtorEq, forall_const, times, Value.cells, exists_and_left, exists_eq_left', eq_self, Nat.reduceLT, Int.reduceLT, Int.reduceLE, Int.reduceToNat, Int.reduceAdd, Int.reduceSub, Int.reduceNeg, hnm, Tryd.tf3, Tryd.tf4, Tryd.tf22, Tryd.teq30, Tryd.teq57, Tryd.teq58, Tryd.teq79, Tryd.teq80, Tryd.teq86, Tryd.teq88, Tryd.teq96, Tryd.teq98, Tryd.call36, Tryd.call37, e1]); repeat (refine And.intro (by omega) ?_))
    | ((first | with_reducible apply WL_nil | with_reducible apply W_label | with_reducible apply W_skip | with_reducible apply W_exit | with_reducible apply W_ret); try simp only [seqK, blockK, scopeK, ↓reduceIte, Nat.reduceEqDiff])
    | (with_reducible apply pguard_intro <;> (intro hc; (try simp only [hcb, reduceCtorEq, false_implies, true_implies, forall_const, bne_iff_ne, beq_iff_eq, ne_eq] at hc); first | (exfalso; omega) | (exfalso; exact hc trivial) | refine Ev_in ?_))
    | (with_reducible apply W_cond_k; intro _ _ ea eb; (simp only [condK, not_true_eq_false, not_false_eq_true, opnd, constPV, List.getD_cons_zero, List.getD_cons_succ, fr_getD_cons, fr_getD_nil, Nat.reduceEqDiff, Nat.reduceLT, ↓reduceIte, hcb, reduceCtorEq, false_implies, true_implies, forall_const, bne_iff_ne, beq_iff_eq, ne_eq]); subst ea eb; first | (refine ⟨fun hc => ?_, fun hc => ?_⟩ <;> first | (exfalso; omega) | (exfalso; exact hc trivial) | skip) | skip)
    | (with_reducible apply hnx; clear hnx nx)
    | (with_reducible refine And.intro (by omega) ?_)
    | (with_reducible refine And.intro ?_ ?_)
    | (with_reducible refine pcall_k (c1) ?_; rintro _ _ ⟨rfl, rfl⟩ -; refine Ev_in ?_)
    | (clear hnx nx; with_reducible apply hnx; clear hnx nx)
    | (clear hnx nx; clear hnx nx; with_reducible apply hnx; clear hnx nx)
    | (clear hnx nx; clear hnx nx; clear hnx nx; with_reducible apply hnx; clear hnx nx))
        all_goals first
          | (exfalso
             omega)
          | skip
        · have hm3 : m < 12 := by
            rcases Int.lt_or_le m 12 with h | h
            · exact h
            · have hm : m = 12 := by omega
              have a := cumM_succ y hm1 hm2
              subst hm
              have b := cumM_13 y
              rw [show (12 : Int) + 1 = 13 by rfl, b] at a
              omega
          refine hlp _ (13 - (m + 1)).toNat _ (by omega) ?_ ⟨m + 1, by omega, by omega, by rw [cumM_succ y hm1 hm2]; omega, rfl, rfl⟩
          exact Wk_fr (by simp only [List.forall_mem_cons, List.not_mem_nil, false_implies, implies_true, and_true, true_and, and_self, fr_getD_cons, fr_getD_nil, Nat.reduceEqDiff, Nat.reduceLT, ↓reduceIte, Int.natCast_add, Int.cast_ofNat_Int, Int.natCast_zero]) (Sub_nil _)
        · refine hfin _ _ (Fin_ret4 rfl rfl rfl rfl (Sub_nil _) ?_); simp only [List.getD_cons_zero, List.getD_cons_succ, fr_getD_cons, fr_getD_nil, Nat.reduceEqDiff, Nat.reduceLT, ↓reduceIte]
          rw [dateT_eq (y := y) (m := m) (d := n - startI y - cumM y m + 1) (by unfold okD; omega) (by unfold dayN; omega) hv.1 hv.2]
          exact ⟨rfl, trivial⟩
  · (refine PCalls_f Tryd.func14 rfl Tryd.ntmps14 Tryd.results14 (by simp) fun fin hfin => ?_; have hnm : True := trivial; simp (maxSteps := 2000000) (disch := omega) only [evb, ↓popG_eq, ↓pop.eq_1, ↓List.getElem?_map, ↓List.getElem?_cons_zero, ↓List.getElem?_cons_succ, pbuiltin, opnd, constPV, PState.put, layFrom, List.set, pnck, seqK, blockK, scopeK, pbin, pun, ppick, plen, pldop, pload, pfaddr, piaddr, pindex, pfield, pslice, pbound, pconv, pelems, pextract, pmm, parr, pbuild, pfill, PV.mem?, PV.one, PV.cells, pageq, peqs, peq1, palloc, pbox, pbuildS, pmakes, pstore, pappend, pcopy, pbytes, pmark, psrc, vcells, Value.oneCell', look, upd, del, names, Nat.reduceAdd, Nat.reduceMul, Nat.reduceSub, Nat.reduceLeDiff, Nat.reduceEqDiff, ↓reduceIte, ne_eq, reduceCtorEq, forall_const, times, Value.cells, exists_and_left, exists_eq_left', eq_self, Nat.reduceLT, Int.reduceLT, Int.reduceLE, Int.reduceToNat, Int.reduceAdd, Int.reduceSub, Int.reduceNeg, hnm, Tryd.tf3, Tryd.tf4, Tryd.tf22, Tryd.teq30, Tryd.teq57, Tryd.teq58, Tryd.teq79, Tryd.teq80, Tryd.teq86, Tryd.teq88, Tryd.teq96, Tryd.teq98, Tryd.call36, Tryd.call37])
    repeat' (first
    | (with_reducible apply W_seq_k; intro nx hnx)
    | with_reducible apply W_block
    | with_reducible apply W_scope
    | (with_reducible refine W_prune 509 ?_; simp only [prune_cons, prune_nil, Nat.reducePow, Nat.reduceDiv, Nat.reduceMod, Nat.reduceBEq, cond_true, cond_false]; with_reducible apply W_region_l)
    | ((first | (with_reducible apply WL_op; intro nx hnx) | with_reducible refine Ev_out ?_); try (simp (maxSteps := 2000000) (disch := omega) only [evb, ↓popG_eq, ↓pop.eq_1, ↓List.getElem?_map, ↓List.getElem?_cons_zero, ↓List.getElem?_cons_succ, pbuiltin, opnd, constPV, PState.put, layFrom, List.set, pnck, seqK, blockK, scopeK, pbin, pun, ppick, plen, pldop, pload, pfaddr, piaddr, pindex, pfield, pslice, pbound, pconv, pelems, pextract, pmm, parr, pbuild, pfill, PV.mem?, PV.one, PV.cells, pageq, peqs, peq1, palloc, pbox, pbuildS, pmakes, pstore, pappend, pcopy, pbytes, pmark, psrc, vcells, Value.oneCell', look, upd, del, names, Nat.reduceAdd, Nat.reduceMul, Nat.reduceSub, Nat.reduceLeDiff, Nat.reduceEqDiff, ↓reduceIte, ne_eq, reduceCtorEq, forall_const, times, Value.cells, exists_and_left, exists_eq_left', eq_self, Nat.reduceLT, Int.reduceLT, Int.reduceLE, Int.reduceToNat, Int.reduceAdd, Int.reduceSub, Int.reduceNeg, hnm, Tryd.tf3, Tryd.tf4, Tryd.tf22, Tryd.teq30, Tryd.teq57, Tryd.teq58, Tryd.teq79, Tryd.teq80, Tryd.teq86, Tryd.teq88, Tryd.teq96, Tryd.teq98, Tryd.call36, Tryd.call37]); repeat (refine And.intro (by omega) ?_))
    | ((first | with_reducible apply WL_nil | with_reducible apply W_label | with_reducible apply W_skip | with_reducible apply W_exit | with_reducible apply W_ret); try simp only [seqK, blockK, scopeK, ↓reduceIte, Nat.reduceEqDiff])
    | (with_reducible apply pguard_intro <;> (intro hc; (try simp only [hcb, reduceCtorEq, false_implies, true_implies, forall_const, bne_iff_ne, beq_iff_eq, ne_eq] at hc); first | (exfalso; omega) | (exfalso; exact hc trivial) | refine Ev_in ?_))
    | (with_reducible apply W_cond_k; intro _ _ ea eb; (simp only [condK, not_true_eq_false, not_false_eq_true, opnd, constPV, List.getD_cons_zero, List.getD_cons_succ, fr_getD_cons, fr_getD_nil, Nat.reduceEqDiff, Nat.reduceLT, ↓reduceIte, hcb, reduceCtorEq, false_implies, true_implies, forall_const, bne_iff_ne, beq_iff_eq, ne_eq]); subst ea eb; first | (refine ⟨fun hc => ?_, fun hc => ?_⟩ <;> first | (exfalso; omega) | (exfalso; exact hc trivial) | skip) | skip)
    | (with_reducible apply hnx; clear hnx nx)
    | (with_reducible refine And.intro (by omega) ?_)
    | (with_reducible refine And.intro ?_ ?_)
    | (clear hnx nx; with_reducible apply hnx; clear hnx nx)
    | (clear hnx nx; clear hnx nx; with_reducible apply hnx; clear hnx nx)
    | (clear hnx nx; clear hnx nx; clear hnx nx; with_reducible apply hnx; clear hnx nx))
    all_goals first
      | (exfalso
         omega)
      | (refine hfin _ _ (Fin_ret4 rfl rfl rfl rfl (Sub_nil _) ?_); simp only [List.getD_cons_zero, List.getD_cons_succ, fr_getD_cons, fr_getD_nil, Nat.reduceEqDiff, Nat.reduceLT, ↓reduceIte]
         rw [dateT, if_neg (by omega)]
         exact ⟨rfl, trivial⟩)
end Go.PM

namespace Go.PM
open Go.Proofs
attribute [local irreducible] W PCalls pcall pcallI WL
set_option maxRecDepth 100000 in
set_option maxHeartbeats 8000000 in
theorem rlen_c (G : Globs) (y m : Int) (hy : 1 ≤ y) (hy2 : y ≤ 4000) (h1 : 1 ≤ m) (h2 : m ≤ 12) :
    PCalls Tryd.prog G 40 [pint .i64 y, pint .i64 m] [] (fun res H => res = pint .i64 (lenM y m) ∧ H = []) := by
  have t4 : y.tmod 4 = y % 4 := Int.tmod_eq_emod_of_nonneg (by omega)
  have t100 : y.tmod 100 = y % 100 := Int.tmod_eq_emod_of_nonneg (by omega)
  have t400 : y.tmod 400 = y % 400 := Int.tmod_eq_emod_of_nonneg (by omega)
  (refine PCalls_f Tryd.func40 rfl Tryd.ntmps40 Tryd.results40 (by simp) fun fin hfin => ?_; have hnm : True := trivial; simp (maxSteps := 2000000) (disch := omega) only [evb, ↓popG_eq, ↓pop.eq_1, ↓List.getElem?_map, ↓List.getElem?_cons_zero, ↓List.getElem?_cons_succ, pbuiltin, opnd, constPV, PState.put, layFrom, List.set, pnck, seqK, blockK, scopeK, pbin, pun, ppick, plen, pldop, pload, pfaddr, piaddr, pindex, pfield, pslice, pbound, pconv, pelems, pextract, pmm, parr, pbuild, pfill, PV.mem?, PV.one, PV.cells, pageq, peqs, peq1, palloc, pbox, pbuildS, pmakes, pstore, pappend, pcopy, pbytes, pmark, psrc, vcells, Value.oneCell', look, upd, del, names, Nat.reduceAdd, Nat.reduceMul, Nat.reduceSub, Nat.reduceLeDiff, Nat.reduceEqDiff, ↓reduceIte, ne_eq, reduceCtorEq, forall_const, times, Value.cells, exists_and_left, exists_eq_left', eq_self, Nat.reduceLT, Int.reduceLT, Int.reduceLE, Int.reduceToNat, Int.reduceAdd, Int.reduceSub, Int.reduceNeg, hnm, Tryd.tf3, Tryd.tf4, Tryd.teq30, Tryd.teq57, Tryd.teq58, Tryd.teq79, Tryd.teq80, Tryd.teq86, Tryd.teq88, Tryd.teq96, Tryd.teq98])
  repeat' (first
    | (with_reducible apply W_seq_k; intro nx hnx)
    | with_reducible apply W_block
    | with_reducible apply W_scope
    | (with_reducible refine W_prune 19 ?_; simp only [prune_cons, prune_nil, Nat.reducePow, Nat.reduceDiv, Nat.reduceMod, Nat.reduceBEq, cond_true, cond_false]; with_reducible apply W_region_l)
    | ((first | (with_reducible apply WL_op; intro nx hnx) | with_reducible refine Ev_out ?_); try (simp (maxSteps := 2000000) (disch := omega) only [evb, ↓popG_eq, ↓pop.eq_1, ↓List.getElem?_map, ↓List.getElem?_cons_zero, ↓List.getElem?_cons_succ, pbuiltin, opnd, constPV, PState.put, layFrom, List.set, pnck, seqK, blockK, scopeK, pbin, pun, ppick, plen, pldop, pload, pfaddr, piaddr, pindex, pfield, pslice, pbound, pconv, pelems, pextract, pmm, parr, pbuild, pfill, PV.mem?, PV.one, PV.cells, pageq, peqs, peq1, palloc, pbox, pbuildS, pmakes, pstore, pappend, pcopy, pbytes, pmark, psrc, vcells, Value.oneCell', look, upd, del, names, Nat.reduceAdd, Nat.reduceMul, Nat.reduceSub, Nat.reduceLeDiff, Nat.reduceEqDiff, ↓reduceIte, ne_eq, reduceCtorEq, forall_const, times, Value.cells, exists_and_left, exists_eq_left', eq_self, Nat.reduceLT, Int.reduceLT, Int.reduceLE, Int.reduceToNat, Int.reduceAdd, Int.reduceSub, Int.reduceNeg, hnm, Tryd.tf3, Tryd.tf4, Tryd.teq30, Tryd.teq57, Tryd.teq58, Tryd.teq79, Tryd.teq80, Tryd.teq86, Tryd.teq88, Tryd.teq96, Tryd.teq98, t4, t100, t400]); repeat (refine And.intro (by omega) ?_))
    | ((first | with_reducible apply WL_nil | with_reducible apply W_label | with_reducible apply W_skip | with_reducible apply W_exit | with_reducible apply W_ret); try simp only [seqK, blockK, scopeK, ↓reduceIte, Nat.reduceEqDiff])
    | (with_reducible apply pguard_intro <;> (intro hc; (try simp only [hcb, reduceCtorEq, false_implies, true_implies, forall_const, bne_iff_ne, beq_iff_eq, ne_eq] at hc); first | (exfalso; omega) | (exfalso; exact hc trivial) | refine Ev_in ?_))
    | (with_reducible apply W_cond_k; intro _ _ ea eb; (simp only [condK, not_true_eq_false, not_false_eq_true, opnd, constPV, List.getD_cons_zero, List.getD_cons_succ, fr_getD_cons, fr_getD_nil, Nat.reduceEqDiff, Nat.reduceLT, ↓reduceIte, hcb, reduceCtorEq, false_implies, true_implies, forall_const, bne_iff_ne, beq_iff_eq, ne_eq]); subst ea eb; first | (refine ⟨fun hc => ?_, fun hc => ?_⟩ <;> first | (exfalso; omega) | (exfalso; exact hc trivial) | skip) | skip)
    | (with_reducible apply hnx; clear hnx nx)
    | (with_reducible refine And.intro (by omega) ?_)
    | (with_reducible refine And.intro ?_ ?_)
    | (clear hnx nx; with_reducible apply hnx; clear hnx nx)
    | (clear hnx nx; clear hnx nx; with_reducible apply hnx; clear hnx nx)
    | (clear hnx nx; clear hnx nx; clear hnx nx; with_reducible apply hnx; clear hnx nx))
  all_goals first
    | (exfalso
       omega)
    | (refine hfin _ _ (Fin_ret1 rfl (Sub_nil _) ?_); simp only [List.getD_cons_zero, List.getD_cons_succ, fr_getD_cons, fr_getD_nil, Nat.reduceEqDiff, Nat.reduceLT, ↓reduceIte]
       refine ⟨?_, trivial⟩
       have e2 : ∀ a b : Int, a = b → pint .i64 a = pint .i64 b := fun a b h => by rw [h]
       refine e2 _ _ ?_
       unfold lenM yearL
       repeat' split
       all_goals omega)
theorem pb_eq {b : Bool} {p : Prop} [Decidable p] (h : b = true ↔ p) : pbool b = pbool (decide p) := by
  rw [show b = decide p by rw [Bool.eq_iff_iff, decide_eq_true_eq]; exact h]
set_option maxRecDepth 100000 in
set_option maxHeartbeats 8000000 in
theorem exists_c (G : Globs) (y m d : Int) : PCalls Tryd.prog G 38 [pint .i64 y, pint .i64 m, pint .i64 d] [] (fun res H => res = pbool (decide (okD y m d)) ∧ H = []) := by
  by_cases hv : 1 ≤ y ∧ y ≤ 2800 ∧ 1 ≤ m ∧ m ≤ 12
  · obtain ⟨h1, h2, h3, h4⟩ := hv
    have c1 := rlen_c G y m (by omega) (by omega) (by omega) (by omega)
    (refine PCalls_f Tryd.func38 rfl Tryd.ntmps38 Tryd.results38 (by simp) fun fin hfin => ?_; have hnm : True := trivial; simp (maxSteps := 2000000) (disch := omega) only [evb, ↓popG_eq, ↓pop.eq_1, ↓List.getElem?_map, ↓List.getElem?_cons_zero, ↓List.getElem?_cons_succ, pbuiltin, opnd, constPV, PState.put, layFrom, List.set, pnck, seqK, blockK, scopeK, pbin, pun, ppick, plen, pldop, pload, pfaddr, piaddr, pindex, pfield, pslice, pbound, pconv, pelems, pextract, pmm, parr, pbuild, pfill, PV.mem?, PV.one, PV.cells, pageq, peqs, peq1, palloc, pbox, pbuildS, pmakes, pstore, pappend, pcopy, pbytes, pmark, psrc, vcells, Value.oneCell', look, upd, del, names, Nat.reduceAdd, Nat.reduceMul, Nat.reduceSub, Nat.reduceLeDiff, Nat.reduceEqDiff, ↓reduceIte, ne_eq, reduceCtorEq, forall_const, times, Value.cells, exists_and_left, exists_eq_left', eq_self, Nat.reduceLT, Int.reduceLT, Int.reduceLE, Int.reduceToNat, Int.reduceAdd, Int.reduceSub, Int.reduceNeg, hnm, Tryd.tf3, Tryd.tf4, Tryd.teq30, Tryd.teq57, Tryd.teq58, Tryd.teq79, Tryd.teq80, Tryd.teq86, Tryd.teq88, Tryd.teq96, Tryd.teq98, Tryd.call40])
    repeat' (first
    | (with_reducible apply W_seq_k; intro nx hnx)
    | with_reducible apply W_block
    | with_reducible apply W_scope
    | (with_reducible refine W_prune 71 ?_; simp only [prune_cons, prune_nil, Nat.reducePow, Nat.reduceDiv, Nat.reduceMod, Nat.reduceBEq, cond_true, cond_false]; with_reducible apply W_region_l)
    | ((first | (with_reducible apply WL_op; intro nx hnx) | with_reducible refine Ev_out ?_); try (simp (maxSteps := 2000000) (disch := omega) only [evb, ↓popG_eq, ↓pop.eq_1, ↓List.getElem?_map, ↓List.getElem?_cons_zero, ↓List.getElem?_cons_succ, pbuiltin, opnd, constPV, PState.put, layFrom, List.set, pnck, seqK, blockK, scopeK, pbin, pun, ppick, plen, pldop, pload, pfaddr, piaddr, pindex, pfield, pslice, pbound, pconv, pelems, pextract, pmm, parr, pbuild, pfill, PV.mem?, PV.one, PV.cells, pageq, peqs, peq1, palloc, pbox, pbuildS, pmakes, pstore, pappend, pcopy, pbytes, pmark, psrc, vcells, Value.oneCell', look, upd, del, names, Nat.reduceAdd, Nat.reduceMul, Nat.reduceSub, Nat.reduceLeDiff, Nat.reduceEqDiff, ↓reduceIte, ne_eq, reduceCtorEq, forall_const, times, Value.cells, exists_and_left, exists_eq_left', eq_self, Nat.reduceLT, Int.reduceLT, Int.reduceLE, Int.reduceToNat, Int.reduceAdd, Int.reduceSub, Int.reduceNeg, hnm, Tryd.tf3, Tryd.tf4, Tryd.teq30, Tryd.teq57, Tryd.teq58, Tryd.teq79, Tryd.teq80, Tryd.teq86, Tryd.teq88, Tryd.teq96, Tryd.teq98, Tryd.call40]); repeat (refine And.intro (by omega) ?_))
    | ((first | with_reducible apply WL_nil | with_reducible apply W_label | with_reducible apply W_skip | with_reducible apply W_exit | with_reducible apply W_ret); try simp only [seqK, blockK, scopeK, ↓reduceIte, Nat.reduceEqDiff])
    | (with_reducible apply pguard_intro <;> (intro hc; (try simp only [hcb, reduceCtorEq, false_implies, true_implies, forall_const, bne_iff_ne, beq_iff_eq, ne_eq] at hc); first | (exfalso; omega) | (exfalso; exact hc trivial) | refine Ev_in ?_))
    | (with_reducible apply W_cond_k; intro _ _ ea eb; (simp only [condK, not_true_eq_false, not_false_eq_true, opnd, constPV, List.getD_cons_zero, List.getD_cons_succ, fr_getD_cons, fr_getD_nil, Nat.reduceEqDiff, Nat.reduceLT, ↓reduceIte, hcb, reduceCtorEq, false_implies, true_implies, forall_const, bne_iff_ne, beq_iff_eq, ne_eq]); subst ea eb; first | (refine ⟨fun hc => ?_, fun hc => ?_⟩ <;> first | (exfalso; omega) | (exfalso; exact hc trivial) | skip) | skip)
    | (with_reducible apply hnx; clear hnx nx)
    | (with_reducible refine And.intro (by omega) ?_)
    | (with_reducible refine And.intro ?_ ?_)
    | (with_reducible refine pcall_k (c1) ?_; rintro _ _ ⟨rfl, rfl⟩ -; refine Ev_in ?_)
    | (clear hnx nx; with_reducible apply hnx; clear hnx nx)
    | (clear hnx nx; clear hnx nx; with_reducible apply hnx; clear hnx nx)
    | (clear hnx nx; clear hnx nx; clear hnx nx; with_reducible apply hnx; clear hnx nx))
    all_goals first
      | (exfalso
         omega)
      | (refine hfin _ _ (Fin_ret1 rfl (Sub_nil _) ?_); simp only [List.getD_cons_zero, List.getD_cons_succ, fr_getD_cons, fr_getD_nil, Nat.reduceEqDiff, Nat.reduceLT, ↓reduceIte]
         refine ⟨pb_eq ?_, trivial⟩
         simp only [decide_eq_true_eq, Bool.false_eq_true, okD, false_iff]
         omega)
  · (refine PCalls_f Tryd.func38 rfl Tryd.ntmps38 Tryd.results38 (by simp) fun fin hfin => ?_; have hnm : True := trivial; simp (maxSteps := 2000000) (disch := omega) only [evb, ↓popG_eq, ↓pop.eq_1, ↓List.getElem?_map, ↓List.getElem?_cons_zero, ↓List.getElem?_cons_succ, pbuiltin, opnd, constPV, PState.put, layFrom, List.set, pnck, seqK, blockK, scopeK, pbin, pun, ppick, plen, pldop, pload, pfaddr, piaddr, pindex, pfield, pslice, pbound, pconv, pelems, pextract, pmm, parr, pbuild, pfill, PV.mem?, PV.one, PV.cells, pageq, peqs, peq1, palloc, pbox, pbuildS, pmakes, pstore, pappend, pcopy, pbytes, pmark, psrc, vcells, Value.oneCell', look, upd, del, names, Nat.reduceAdd, Nat.reduceMul, Nat.reduceSub, Nat.reduceLeDiff, Nat.reduceEqDiff, ↓reduceIte, ne_eq, reduceCtorEq, forall_const, times, Value.cells, exists_and_left, exists_eq_left', eq_self, Nat.reduceLT, Int.reduceLT, Int.reduceLE, Int.reduceToNat, Int.reduceAdd, Int.reduceSub, Int.reduceNeg, hnm, Tryd.tf3, Tryd.tf4, Tryd.teq30, Tryd.teq57, Tryd.teq58, Tryd.teq79, Tryd.teq80, Tryd.teq86, Tryd.teq88, Tryd.teq96, Tryd.teq98, Tryd.call40])
    repeat' (first
    | (with_reducible apply W_seq_k; intro nx hnx)
    | with_reducible apply W_block
    | with_reducible apply W_scope
    | (with_reducible refine W_prune 71 ?_; simp only [prune_cons, prune_nil, Nat.reducePow, Nat.reduceDiv, Nat.reduceMod, Nat.reduceBEq, cond_true, cond_false]; with_reducible apply W_region_l)
    | ((first | (with_reducible apply WL_op; intro nx hnx) | with_reducible refine Ev_out ?_); try (simp (maxSteps := 2000000) (disch := omega) only [evb, ↓popG_eq, ↓pop.eq_1, ↓List.getElem?_map, ↓List.getElem?_cons_zero, ↓List.getElem?_cons_succ, pbuiltin, opnd, constPV, PState.put, layFrom, List.set, pnck, seqK, blockK, scopeK, pbin, pun, ppick, plen, pldop, pload, pfaddr, piaddr, pindex, pfield, pslice, pbound, pconv, pelems, pextract, pmm, parr, pbuild, pfill, PV.mem?, PV.one, PV.cells, pageq, peqs, peq1, palloc, pbox, pbuildS, pmakes, pstore, pappend, pcopy, pbytes, pmark, psrc, vcells, Value.oneCell', look, upd, del, names, Nat.reduceAdd, Nat.reduceMul, Nat.reduceSub, Nat.reduceLeDiff, Nat.reduceEqDiff, ↓reduceIte, ne_eq, reduceCtorEq, forall_const, times, Value.cells, exists_and_left, exists_eq_left', eq_self, Nat.reduceLT, Int.reduceLT, Int.reduceLE, Int.reduceToNat, Int.reduceAdd, Int.reduceSub, Int.reduceNeg, hnm, Tryd.tf3, Tryd.tf4, Tryd.teq30, Tryd.teq57, Tryd.teq58, Tryd.teq79, Tryd.teq80, Tryd.teq86, Tryd.teq88, Tryd.teq96, Tryd.teq98, Tryd.call40]); repeat (refine And.intro (by omega) ?_))
    | ((first | with_reducible apply WL_nil | with_reducible apply W_label | with_reducible apply W_skip | with_reducible apply W_exit | with_reducible apply W_ret); try simp only [seqK, blockK, scopeK, ↓reduceIte, Nat.reduceEqDiff])
    | (with_reducible apply pguard_intro <;> (intro hc; (try simp only [hcb, reduceCtorEq, false_implies, true_implies, forall_const, bne_iff_ne, beq_iff_eq, ne_eq] at hc); first | (exfalso; omega) | (exfalso; exact hc trivial) | refine Ev_in ?_))
    | (with_reducible apply W_cond_k; intro _ _ ea eb; (simp only [condK, not_true_eq_false, not_false_eq_true, opnd, constPV, List.getD_cons_zero, List.getD_cons_succ, fr_getD_cons, fr_getD_nil, Nat.reduceEqDiff, Nat.reduceLT, ↓reduceIte, hcb, reduceCtorEq, false_implies, true_implies, forall_const, bne_iff_ne, beq_iff_eq, ne_eq]); subst ea eb; first | (refine ⟨fun hc => ?_, fun hc => ?_⟩ <;> first | (exfalso; omega) | (exfalso; exact hc trivial) | skip) | skip)
    | (with_reducible apply hnx; clear hnx nx)
    | (with_reducible refine And.intro (by omega) ?_)
    | (with_reducible refine And.intro ?_ ?_)
    | (clear hnx nx; with_reducible apply hnx; clear hnx nx)
    | (clear hnx nx; clear hnx nx; with_reducible apply hnx; clear hnx nx)
    | (clear hnx nx; clear hnx nx; clear hnx nx; with_reducible apply hnx; clear hnx nx))
    all_goals first
      | (exfalso
         omega)
      | (refine hfin _ _ (Fin_ret1 rfl (Sub_nil _) ?_); simp only [List.getD_cons_zero, List.getD_cons_succ, fr_getD_cons, fr_getD_nil, Nat.reduceEqDiff, Nat.reduceLT, ↓reduceIte]
         refine ⟨pb_eq ?_, trivial⟩
         simp only [decide_eq_true_eq, Bool.false_eq_true, okD, false_iff]
         omega)
set_option maxRecDepth 100000 in
set_option maxHeartbeats 8000000 in
theorem rstart_c (G : Globs) (y : Int) (hy : 1 ≤ y) (hy2 : y ≤ 3000) : PCalls Tryd.prog G 39 [pint .i64 y] [] (fun res H => res = pint .i64 (startI y) ∧ H = []) := by
  (refine PCalls_f Tryd.func39 rfl Tryd.ntmps39 Tryd.results39 (by simp) fun fin hfin => ?_; have hnm : True := trivial; simp (maxSteps := 2000000) (disch := omega) only [evb, ↓popG_eq, ↓pop.eq_1, ↓List.getElem?_map, ↓List.getElem?_cons_zero, ↓List.getElem?_cons_succ, pbuiltin, opnd, constPV, PState.put, layFrom, List.set, pnck, seqK, blockK, scopeK, pbin, pun, ppick, plen, pldop, pload, pfaddr, piaddr, pindex, pfield, pslice, pbound, pconv, pelems, pextract, pmm, parr, pbuild, pfill, PV.mem?, PV.one, PV.cells, pageq, peqs, peq1, palloc, pbox, pbuildS, pmakes, pstore, pappend, pcopy, pbytes, pmark, psrc, vcells, Value.oneCell', look, upd, del, names, Nat.reduceAdd, Nat.reduceMul, Nat.reduceSub, Nat.reduceLeDiff, Nat.reduceEqDiff, ↓reduceIte, ne_eq, reduceCtorEq, forall_const, times, Value.cells, exists_and_left, exists_eq_left', eq_self, Nat.reduceLT, Int.reduceLT, Int.reduceLE, Int.reduceToNat, Int.reduceAdd, Int.reduceSub, Int.reduceNeg, hnm, Tryd.tf3, Tryd.tf4, Tryd.teq30, Tryd.teq57, Tryd.teq58, Tryd.teq79, Tryd.teq80, Tryd.teq86, Tryd.teq88, Tryd.teq96, Tryd.teq98, Tryd.call40])
  repeat' (first
    | (with_reducible apply W_seq_k; intro nx hnx)
    | with_reducible apply W_block
    | with_reducible apply W_scope
    | (with_reducible refine W_prune 29 ?_; simp only [prune_cons, prune_nil, Nat.reducePow, Nat.reduceDiv, Nat.reduceMod, Nat.reduceBEq, cond_true, cond_false]; with_reducible apply W_region_l)
    | ((first | (with_reducible apply WL_op; intro nx hnx) | with_reducible refine Ev_out ?_); try (simp (maxSteps := 2000000) (disch := omega) only [evb, ↓popG_eq, ↓pop.eq_1, ↓List.getElem?_map, ↓List.getElem?_cons_zero, ↓List.getElem?_cons_succ, pbuiltin, opnd, constPV, PState.put, layFrom, List.set, pnck, seqK, blockK, scopeK, pbin, pun, ppick, plen, pldop, pload, pfaddr, piaddr, pindex, pfield, pslice, pbound, pconv, pelems, pextract, pmm, parr, pbuild, pfill, PV.mem?, PV.one, PV.cells, pageq, peqs, peq1, palloc, pbox, pbuildS, pmakes, pstore, pappend, pcopy, pbytes, pmark, psrc, vcells, Value.oneCell', look, upd, del, names, Nat.reduceAdd, Nat.reduceMul, Nat.reduceSub, Nat.reduceLeDiff, Nat.reduceEqDiff, ↓reduceIte, ne_eq, reduceCtorEq, forall_const, times, Value.cells, exists_and_left, exists_eq_left', eq_self, Nat.reduceLT, Int.reduceLT, Int.reduceLE, Int.reduceToNat, Int.reduceAdd, Int.reduceSub, Int.reduceNeg, hnm, Tryd.tf3, Tryd.tf4, Tryd.teq30, Tryd.teq57, Tryd.teq58, Tryd.teq79, Tryd.teq80, Tryd.teq86, Tryd.teq88, Tryd.teq96, Tryd.teq98, Tryd.call40]); repeat (refine And.intro (by omega) ?_))
    | ((first | with_reducible apply WL_nil | with_reducible apply W_label | with_reducible apply W_skip | with_reducible apply W_exit | with_reducible apply W_ret); try simp only [seqK, blockK, scopeK, ↓reduceIte, Nat.reduceEqDiff])
    | (with_reducible apply W_cond_k; intro _ _ ea eb; (simp only [condK, not_true_eq_false, not_false_eq_true, opnd, constPV, List.getD_cons_zero, List.getD_cons_succ, fr_getD_cons, fr_getD_nil, Nat.reduceEqDiff, Nat.reduceLT, ↓reduceIte, hcb, reduceCtorEq, false_implies, true_implies, forall_const, bne_iff_ne, beq_iff_eq, ne_eq]); subst ea eb; first | (refine ⟨fun hc => ?_, fun hc => ?_⟩ <;> first | (exfalso; omega) | (exfalso; exact hc trivial) | skip) | skip)
    | (with_reducible apply hnx; clear hnx nx)
    | (with_reducible refine And.intro (by omega) ?_)
    | (with_reducible refine And.intro ?_ ?_)
    | (clear hnx nx; with_reducible apply hnx; clear hnx nx)
    | (clear hnx nx; clear hnx nx; with_reducible apply hnx; clear hnx nx)
    | (clear hnx nx; clear hnx nx; clear hnx nx; with_reducible apply hnx; clear hnx nx))
  refine W_loop_k (fun k τ => ∃ z : Int, 1 ≤ z ∧ z ≤ y ∧ k = (y - z).toNat ∧ τ = ⟨fr 16 [(0, pint .i64 y), (3, pint .i64 (startI z)), (4, pint .i64 z)], []⟩) (y - 1).toNat ⟨fr 16 [(0, pint .i64 y), (3, pint .i64 (startI 1)), (4, pint .i64 1)], []⟩ (by
    rw [show startI 1 = 1 by rfl]
    exact Wk_fr (by simp only [List.forall_mem_cons, List.not_mem_nil, false_implies, implies_true, and_true, true_and, and_self, fr_getD_cons, fr_getD_nil, Nat.reduceEqDiff, Nat.reduceLT, ↓reduceIte, Int.natCast_add, Int.cast_ofNat_Int, Int.natCast_zero]) (Sub_nil _)) ⟨1, by omega, by omega, rfl, rfl⟩ ?_
  rintro k τ ⟨z, hz1, hz2, rfl, rfl⟩ lp hlp
  have c1 := rlen_c G z 2 (by omega) (by omega) (by omega) (by omega)
  have l1 := lenM_pos z (m := 2) (by omega) (by omega)
  have s1 := startI_le (y := z) (by omega) (by omega)
  have e1 : startI z + 337 + lenM z 2 = startI (z + 1) := by rw [startI_succ, lenM, if_pos rfl]; omega
  repeat' (first
    | (with_reducible apply W_seq_k; intro nx hnx)
    | with_reducible apply W_block
    | with_reducible apply W_scope
    | (with_reducible refine W_prune 29 ?_; simp only [prune_cons, prune_nil, Nat.reducePow, Nat.reduceDiv, Nat.reduceMod, Nat.reduceBEq, cond_true, cond_false]; with_reducible apply W_region_l)
    | ((first | (with_reducible apply WL_op; intro nx hnx) | with_reducible refine Ev_out ?_); try (simp (maxSteps := 2000000) (disch := omega) only [evb, ↓popG_eq, ↓pop.eq_1, ↓List.getElem?_map, ↓List.getElem?_cons_zero, ↓List.getElem?_cons_succ, pbuiltin, opnd, constPV, PState.put, layFrom, List.set, pnck, seqK, blockK, scopeK, pbin, pun, ppick, plen, pldop, pload, pfaddr, piaddr, pindex, pfield, pslice, pbound, pconv, pelems, pextract, pmm, parr, pbuild, pfill, PV.mem?, PV.one, PV.cells, pageq, peqs, peq1, palloc, pbox, pbuildS, pmakes, pstore, pappend, pcopy, pbytes, pmark, psrc, vcells, Value.oneCell', look, upd, del, names, Nat.reduceAdd, Nat.reduceMul, Nat.reduceSub, Nat.reduceLeDiff, Nat.reduceEqDiff, ↓reduceIte, ne_eq, reduceCtorEq, forall_const, times, Value.cells, exists_and_left, exists_eq_left', eq_self, Nat.reduceLT, Int.reduceLT, Int.reduceLE, Int.reduceToNat, Int.reduceAdd, Int.reduceSub, Int.reduceNeg, hnm, Tryd.tf3, Tryd.tf4, Tryd.teq30, Tryd.teq57, Tryd.teq58, Tryd.teq79, Tryd.teq80, Tryd.teq86, Tryd.teq88, Tryd.teq96, Tryd.teq98, Tryd.call40, e1]); repeat (refine And.intro (by omega) ?_))
    | ((first | with_reducible apply WL_nil | with_reducible apply W_label | with_reducible apply W_skip | with_reducible apply W_exit | with_reducible apply W_ret); try simp only [seqK, blockK, scopeK, ↓reduceIte, Nat.reduceEqDiff])
    | (with_reducible apply W_cond_k; intro _ _ ea eb; (simp only [condK, not_true_eq_false, not_false_eq_true, opnd, constPV, List.getD_cons_zero, List.getD_cons_succ, fr_getD_cons, fr_getD_nil, Nat.reduceEqDiff, Nat.reduceLT, ↓reduceIte, hcb, reduceCtorEq, false_implies, true_implies, forall_const, bne_iff_ne, beq_iff_eq, ne_eq]); subst ea eb; first | (refine ⟨fun hc => ?_, fun hc => ?_⟩ <;> first | (exfalso; omega) | (exfalso; exact hc trivial) | skip) | skip)
    | (with_reducible apply hnx; clear hnx nx)
    | (with_reducible refine And.intro (by omega) ?_)
    | (with_reducible refine And.intro ?_ ?_)
    | (with_reducible refine pcall_k (c1) ?_; rintro _ _ ⟨rfl, rfl⟩ -; refine Ev_in ?_)
    | (clear hnx nx; with_reducible apply hnx; clear hnx nx)
    | (clear hnx nx; clear hnx nx; with_reducible apply hnx; clear hnx nx)
    | (clear hnx nx; clear hnx nx; clear hnx nx; with_reducible apply hnx; clear hnx nx))
  all_goals first
    | (exfalso
       omega)
    | skip
  · refine hlp _ (y - (z + 1)).toNat _ (by omega) ?_ ⟨z + 1, by omega, by omega, rfl, rfl⟩
    exact Wk_fr (by simp only [List.forall_mem_cons, List.not_mem_nil, false_implies, implies_true, and_true, true_and, and_self, fr_getD_cons, fr_getD_nil, Nat.reduceEqDiff, Nat.reduceLT, ↓reduceIte, Int.natCast_add, Int.cast_ofNat_Int, Int.natCast_zero]) (Sub_nil _)
  · refine hfin _ _ (Fin_ret1 rfl (Sub_nil _) ?_); simp only [List.getD_cons_zero, List.getD_cons_succ, fr_getD_cons, fr_getD_nil, Nat.reduceEqDiff, Nat.reduceLT, ↓reduceIte]
    rw [show z = y by omega]
    exact ⟨rfl, trivial⟩
set_option maxRecDepth 100000 in
set_option maxHeartbeats 8000000 in
theorem rday_c (G : Globs) (y m d : Int) : PCalls Tryd.prog G 13 [pint .i64 y, pint .i64 m, pint .i64 d] [] (fun res H => res = .tuple [pint .i64 (dayF y m d).1, pint .i64 (dayF y m d).2] ∧ H = []) := by
  have c0 := exists_c G y m d
  by_cases hok : okD y m d
  · rw [decide_eq_true hok] at c0
    have hok2 := hok
    obtain ⟨h1, h2, h3, h4, h5, h6⟩ := hok2
    have c2 := rstart_c G y (by omega) (by omega)
    have s2 := startI_le (y := y) (by omega) (by omega)
    have l1 := lenM_pos y (m := m) (by omega) (by omega)
    (refine PCalls_f Tryd.func13 rfl Tryd.ntmps13 Tryd.results13 (by simp) fun fin hfin => ?_; have hnm : True := trivial; simp (maxSteps := 2000000) (disch := omega) only [evb, ↓popG_eq, ↓pop.eq_1, ↓List.getElem?_map, ↓List.getElem?_cons_zero, ↓List.getElem?_cons_succ, pbuiltin, opnd, constPV, PState.put, layFrom, List.set, pnck, seqK, blockK, scopeK, pbin, pun, ppick, plen, pldop, pload, pfaddr, piaddr, pindex, pfield, pslice, pbound, pconv, pelems, pextract, pmm, parr, pbuild, pfill, PV.mem?, PV.one, PV.cells, pageq, peqs, peq1, palloc, pbox, pbuildS, pmakes, pstore, pappend, pcopy, pbytes, pmark, psrc, vcells, Value.oneCell', look, upd, del, names, Nat.reduceAdd, Nat.reduceMul, Nat.reduceSub, Nat.reduceLeDiff, Nat.reduceEqDiff, ↓reduceIte, ne_eq, reduceCtorEq, forall_const, times, Value.cells, exists_and_left, exists_eq_left', eq_self, Nat.reduceLT, Int.reduceLT, Int.reduceLE, Int.reduceToNat, Int.reduceAdd, Int.reduceSub, Int.reduceNeg, hnm, Tryd.tf3, Tryd.tf4, Tryd.tf22, Tryd.teq30, Tryd.teq57, Tryd.teq58, Tryd.teq79, Tryd.teq80, Tryd.teq86, Tryd.teq88, Tryd.teq96, Tryd.teq98, Tryd.call38, Tryd.call39, Tryd.call40])
    repeat' (first
    | (with_reducible apply W_seq_k; intro nx hnx)
    | with_reducible apply W_block
    | with_reducible apply W_scope
    | (with_reducible refine W_prune 967 ?_; simp only [prune_cons, prune_nil, Nat.reducePow, Nat.reduceDiv, Nat.reduceMod, Nat.reduceBEq, cond_true, cond_false]; with_reducible apply W_region_l)
    | ((first | (with_reducible apply WL_op; intro nx hnx) | with_reducible refine Ev_out ?_); try (simp (maxSteps := 2000000) (disch := omega) only [evb, ↓popG_eq, ↓pop.eq_1, ↓List.getElem?_map, ↓List.getElem?_cons_zero, ↓List.getElem?_cons_succ, pbuiltin, opnd, constPV, PState.put, layFrom, List.set, pnck, seqK, blockK, scopeK, pbin, pun, ppick, plen, pldop, pload, pfaddr, piaddr, pindex, pfield, pslice, pbound, pconv, pelems, pextract, pmm, parr, pbuild, pfill, PV.mem?, PV.one, PV.cells, pageq, peqs, peq1, palloc, pbox, pbuildS, pmakes, pstore, pappend, pcopy, pbytes, pmark, psrc, vcells, Value.oneCell', look, upd, del, names, Nat.reduceAdd, Nat.reduceMul, Nat.reduceSub, Nat.reduceLeDiff, Nat.reduceEqDiff, ↓reduceIte, ne_eq, reduceCtorEq, forall_const, times, Value.cells, exists_and_left, exists_eq_left', eq_self, Nat.reduceLT, Int.reduceLT, Int.reduceLE, Int.reduceToNat, Int.reduceAdd, Int.reduceSub, Int.reduceNeg, hnm, Tryd.tf3, Tryd.tf4, Tryd.tf22, Tryd.teq30, Tryd.teq57, Tryd.teq58, Tryd.teq79, Tryd.teq80, Tryd.teq86, Tryd.teq88, Tryd.teq96, Tryd.teq98, Tryd.call38, Tryd.call39, Tryd.call40]); repeat (refine And.intro (by omega) ?_))
    | ((first | with_reducible apply WL_nil | with_reducible apply W_label | with_reducible apply W_skip | with_reducible apply W_exit | with_reducible apply W_ret); try simp only [seqK, blockK, scopeK, ↓reduceIte, Nat.reduceEqDiff])
    | (with_reducible apply W_cond_k; intro _ _ ea eb; (simp only [condK, not_true_eq_false, not_false_eq_true, opnd, constPV, List.getD_cons_zero, List.getD_cons_succ, fr_getD_cons, fr_getD_nil, Nat.reduceEqDiff, Nat.reduceLT, ↓reduceIte, hcb, reduceCtorEq, false_implies, true_implies, forall_const, bne_iff_ne, beq_iff_eq, ne_eq]); subst ea eb; first | (refine ⟨fun hc => ?_, fun hc => ?_⟩ <;> first | (exfalso; omega) | (exfalso; exact hc trivial) | skip) | skip)
    | (with_reducible apply hnx; clear hnx nx)
    | (with_reducible refine And.intro (by omega) ?_)
    | (with_reducible refine And.intro ?_ ?_)
    | (with_reducible refine pcall_k (c0) ?_; rintro _ _ ⟨rfl, rfl⟩ -; refine Ev_in ?_)
    | (with_reducible refine pcall_k (c2) ?_; rintro _ _ ⟨rfl, rfl⟩ -; refine Ev_in ?_)
    | (clear hnx nx; with_reducible apply hnx; clear hnx nx)
    | (clear hnx nx; clear hnx nx; with_reducible apply hnx; clear hnx nx)
    | (clear hnx nx; clear hnx nx; clear hnx nx; with_reducible apply hnx; clear hnx nx))
    all_goals first
      | (exfalso
         omega)
      | skip
    refine W_loop_k (fun k τ => ∃ j : Int, 1 ≤ j ∧ j ≤ m ∧ k = (m - j).toNat ∧ τ = ⟨fr 31 [(0, pint .i64 y), (1, pint .i64 m), (2, pint .i64 d), (8, pint .i64 (startI y + cumM y j)), (9, pint .i64 j)], []⟩) (m - 1).toNat ⟨fr 31 [(0, pint .i64 y), (1, pint .i64 m), (2, pint .i64 d), (8, pint .i64 (startI y + cumM y 1)), (9, pint .i64 1)], []⟩ (by
      rw [cumM_one, Int.add_zero]
      exact Wk_fr (by simp only [List.forall_mem_cons, List.not_mem_nil, false_implies, implies_true, and_true, true_and, and_self, fr_getD_cons, fr_getD_nil, Nat.reduceEqDiff, Nat.reduceLT, ↓reduceIte, Int.natCast_add, Int.cast_ofNat_Int, Int.natCast_zero]) (Sub_nil _)) ⟨1, by omega, by omega, rfl, rfl⟩ ?_
    rintro k τ ⟨j, hj1, hj2, rfl, rfl⟩ lp hlp
    have cj := cumM_le y (m := j) (by omega) (by omega)
    by_cases hjm : j < m
    · have c3 := rlen_c G y j (by omega) (by omega) (by omega) (by omega)
      have l3 := lenM_pos y (m := j) (by omega) (by omega)
      have e3 : startI y + cumM y j + lenM y j = startI y + cumM y (j + 1) := by rw [cumM_succ y (by omega) (by omega)]; omega
      repeat' (first
    | (with_reducible apply W_seq_k; intro nx hnx)
    | with_reducible apply W_block
    | with_reducible apply W_scope
    | (with_reducible refine W_prune 967 ?_; simp only [prune_cons, prune_nil, Nat.reducePow, Nat.reduceDiv, Nat.reduceMod, Nat.reduceBEq, cond_true, cond_false]; with_reducible apply W_region_l)
    | ((first | (with_reducible apply WL_op; intro nx hnx) | with_reducible refine Ev_out ?_); try (simp (maxSteps := 2000000) (disch := omega) only [evb, ↓popG_eq, ↓pop.eq_1, ↓List.getElem?_map, ↓List.getElem?_cons_zero, ↓List.getElem?_cons_succ, pbuiltin, opnd, constPV, PState.put, layFrom, List.set, pnck, seqK, blockK, scopeK, pbin, pun, ppick, plen, pldop, pload, pfaddr, piaddr, pindex, pfield, pslice, pbound, pconv, pelems, pextract, pmm, parr, pbuild, pfill, PV.mem?, PV.one, PV.cells, pageq, peqs, peq1, palloc, pbox, pbuildS, pmakes, pstore, pappend, pcopy, pbytes, pmark, psrc, vcells, Value.oneCell', look, upd, del, names, Nat.reduceAdd, Nat.reduceMul, Nat.reduceSub, Nat.reduceLeDiff, Nat.reduceEqDiff, ↓reduceIte, ne_eq, reduceCtorEq, forall_const, times, Value.cells, exists_and_left, exists_eq_left', eq_self, Nat.reduceLT, Int.reduceLT, Int.reduceLE, Int.reduceToNat, Int.reduceAdd, Int.reduceSub, Int.reduceNeg, hnm, Tryd.tf3, Tryd.tf4, Tryd.tf22, Tryd.teq30, Tryd.teq57, Tryd.teq58, Tryd.teq79, Tryd.teq80, Tryd.teq86, Tryd.teq88, Tryd.teq96, Tryd.teq98, Tryd.call38, Tryd.call39, Tryd.call40, e3]); repeat (refine And.intro (by omega) ?_))
    | ((first | with_reducible apply WL_nil | with_reducible apply W_label | with_reducible apply W_skip | with_reducible apply W_exit | with_reducible apply W_ret); try simp only [seqK, blockK, scopeK, ↓reduceIte, Nat.reduceEqDiff])
    | (with_reducible apply W_cond_k; intro _ _ ea eb; (simp only [condK, not_true_eq_false, not_false_eq_true, opnd, constPV, List.getD_cons_zero, List.getD_cons_succ, fr_getD_cons, fr_getD_nil, Nat.reduceEqDiff, Nat.reduceLT, ↓reduceIte, hcb, reduceCtorEq, false_implies, true_implies, forall_const, bne_iff_ne, beq_iff_eq, ne_eq]); subst ea eb; first | (refine ⟨fun hc => ?_, fun hc => ?_⟩ <;> first | (exfalso; omega) | (exfalso; exact hc trivial) | skip) | skip)
    | (with_reducible apply hnx; clear hnx nx)
    | (with_reducible refine And.intro (by omega) ?_)
    | (with_reducible refine And.intro ?_ ?_)
    | (with_reducible refine pcall_k (c3) ?_; rintro _ _ ⟨rfl, rfl⟩ -; refine Ev_in ?_)
    | (clear hnx nx; with_reducible apply hnx; clear hnx nx)
    | (clear hnx nx; clear hnx nx; with_reducible apply hnx; clear hnx nx)
    | (clear hnx nx; clear hnx nx; clear hnx nx; with_reducible apply hnx; clear hnx nx))
      all_goals first
        | (exfalso
           omega)
        | skip
      refine hlp _ (m - (j + 1)).toNat _ (by omega) ?_ ⟨j + 1, by omega, by omega, rfl, rfl⟩
      exact Wk_fr (by simp only [List.forall_mem_cons, List.not_mem_nil, false_implies, implies_true, and_true, true_and, and_self, fr_getD_cons, fr_getD_nil, Nat.reduceEqDiff, Nat.reduceLT, ↓reduceIte, Int.natCast_add, Int.cast_ofNat_Int, Int.natCast_zero]) (Sub_nil _)
    · have hjm : j = m := by omega
      subst hjm
      have e4 : startI y + cumM y j + d - 1 = dayN y j d := rfl
      repeat' (first
    | (with_reducible apply W_seq_k; intro nx hnx)
    | with_reducible apply W_block
    | with_reducible apply W_scope
    | (with_reducible refine W_prune 967 ?_; simp only [prune_cons, prune_nil, Nat.reducePow, Nat.reduceDiv, Nat.reduceMod, Nat.reduceBEq, cond_true, cond_false]; with_reducible apply W_region_l)
    | ((first | (with_reducible apply WL_op; intro nx hnx) | with_reducible refine Ev_out ?_); try (simp (maxSteps := 2000000) (disch := omega) only [evb, ↓popG_eq, ↓pop.eq_1, ↓List.getElem?_map, ↓List.getElem?_cons_zero, ↓List.getElem?_cons_succ, pbuiltin, opnd, constPV, PState.put, layFrom, List.set, pnck, seqK, blockK, scopeK, pbin, pun, ppick, plen, pldop, pload, pfaddr, piaddr, pindex, pfield, pslice, pbound, pconv, pelems, pextract, pmm, parr, pbuild, pfill, PV.mem?, PV.one, PV.cells, pageq, peqs, peq1, palloc, pbox, pbuildS, pmakes, pstore, pappend, pcopy, pbytes, pmark, psrc, vcells, Value.oneCell', look, upd, del, names, Nat.reduceAdd, Nat.reduceMul, Nat.reduceSub, Nat.reduceLeDiff, Nat.reduceEqDiff, ↓reduceIte, ne_eq, reduceCtorEq, forall_const, times, Value.cells, exists_and_left, exists_eq_left', eq_self, Nat.reduceLT, Int.reduceLT, Int.reduceLE, Int.reduceToNat, Int.reduceAdd, Int.reduceSub, Int.reduceNeg, hnm, Tryd.tf3, Tryd.tf4, Tryd.tf22, Tryd.teq30, Tryd.teq57, Tryd.teq58, Tryd.teq79, Tryd.teq80, Tryd.teq86, Tryd.teq88, Tryd.teq96, Tryd.teq98, Tryd.call38, Tryd.call39, Tryd.call40, e4]); repeat (refine And.intro (by omega) ?_))
    | ((first | with_reducible apply WL_nil | with_reducible apply W_label | with_reducible apply W_skip | with_reducible apply W_exit | with_reducible apply W_ret); try simp only [seqK, blockK, scopeK, ↓reduceIte, Nat.reduceEqDiff])
    | (with_reducible apply W_cond_k; intro _ _ ea eb; (simp only [condK, not_true_eq_false, not_false_eq_true, opnd, constPV, List.getD_cons_zero, List.getD_cons_succ, fr_getD_cons, fr_getD_nil, Nat.reduceEqDiff, Nat.reduceLT, ↓reduceIte, hcb, reduceCtorEq, false_implies, true_implies, forall_const, bne_iff_ne, beq_iff_eq, ne_eq]); subst ea eb; first | (refine ⟨fun hc => ?_, fun hc => ?_⟩ <;> first | (exfalso; omega) | (exfalso; exact hc trivial) | skip) | skip)
    | (with_reducible apply hnx; clear hnx nx)
    | (with_reducible refine And.intro (by omega) ?_)
    | (with_reducible refine And.intro ?_ ?_)
    | (clear hnx nx; with_reducible apply hnx; clear hnx nx)
    | (clear hnx nx; clear hnx nx; with_reducible apply hnx; clear hnx nx)
    | (clear hnx nx; clear hnx nx; clear hnx nx; with_reducible apply hnx; clear hnx nx))
      all_goals first
        | (exfalso
           omega)
        | (refine hfin _ _ (Fin_ret2 rfl rfl (Sub_nil _) ?_); simp only [List.getD_cons_zero, List.getD_cons_succ, fr_getD_cons, fr_getD_nil, Nat.reduceEqDiff, Nat.reduceLT, ↓reduceIte]
           rw [dayF, if_pos hok]
           exact ⟨rfl, trivial⟩)
  · rw [decide_eq_false hok] at c0
    (refine PCalls_f Tryd.func13 rfl Tryd.ntmps13 Tryd.results13 (by simp) fun fin hfin => ?_; have hnm : True := trivial; simp (maxSteps := 2000000) (disch := omega) only [evb, ↓popG_eq, ↓pop.eq_1, ↓List.getElem?_map, ↓List.getElem?_cons_zero, ↓List.getElem?_cons_succ, pbuiltin, opnd, constPV, PState.put, layFrom, List.set, pnck, seqK, blockK, scopeK, pbin, pun, ppick, plen, pldop, pload, pfaddr, piaddr, pindex, pfield, pslice, pbound, pconv, pelems, pextract, pmm, parr, pbuild, pfill, PV.mem?, PV.one, PV.cells, pageq, peqs, peq1, palloc, pbox, pbuildS, pmakes, pstore, pappend, pcopy, pbytes, pmark, psrc, vcells, Value.oneCell', look, upd, del, names, Nat.reduceAdd, Nat.reduceMul, Nat.reduceSub, Nat.reduceLeDiff, Nat.reduceEqDiff, ↓reduceIte, ne_eq, reduceCtorEq, forall_const, times, Value.cells, exists_and_left, exists_eq_left', eq_self, Nat.reduceLT, Int.reduceLT, Int.reduceLE, Int.reduceToNat, Int.reduceAdd, Int.reduceSub, Int.reduceNeg, hnm, Tryd.tf3, Tryd.tf4, Tryd.tf22, Tryd.teq30, Tryd.teq57, Tryd.teq58, Tryd.teq79, Tryd.teq80, Tryd.teq86, Tryd.teq88, Tryd.teq96, Tryd.teq98, Tryd.call38, Tryd.call39, Tryd.call40])
    repeat' (first
    | (with_reducible apply W_seq_k; intro nx hnx)
    | with_reducible apply W_block
    | with_reducible apply W_scope
    | (with_reducible refine W_prune 967 ?_; simp only [prune_cons, prune_nil, Nat.reducePow, Nat.reduceDiv, Nat.reduceMod, Nat.reduceBEq, cond_true, cond_false]; with_reducible apply W_region_l)
    | ((first | (with_reducible apply WL_op; intro nx hnx) | with_reducible refine Ev_out ?_); try (simp (maxSteps := 2000000) (disch := omega) only [evb, ↓popG_eq, ↓pop.eq_1, ↓List.getElem?_map, ↓List.getElem?_cons_zero, ↓List.getElem?_cons_succ, pbuiltin, opnd, constPV, PState.put, layFrom, List.set, pnck, seqK, blockK, scopeK, pbin, pun, ppick, plen, pldop, pload, pfaddr, piaddr, pindex, pfield, pslice, pbound, pconv, pelems, pextract, pmm, parr, pbuild, pfill, PV.mem?, PV.one, PV.cells, pageq, peqs, peq1, palloc, pbox, pbuildS, pmakes, pstore, pappend, pcopy, pbytes, pmark, psrc, vcells, Value.oneCell', look, upd, del, names, Nat.reduceAdd, Nat.reduceMul, Nat.reduceSub, Nat.reduceLeDiff, Nat.reduceEqDiff, ↓reduceIte, ne_eq, reduceCtorEq, forall_const, times, Value.cells, exists_and_left, exists_eq_left', eq_self, Nat.reduceLT, Int.reduceLT, Int.reduceLE, Int.reduceToNat, Int.reduceAdd, Int.reduceSub, Int.reduceNeg, hnm, Tryd.tf3, Tryd.tf4, Tryd.tf22, Tryd.teq30, Tryd.teq57, Tryd.teq58, Tryd.teq79, Tryd.teq80, Tryd.teq86, Tryd.teq88, Tryd.teq96, Tryd.teq98, Tryd.call38, Tryd.call39, Tryd.call40]); repeat (refine And.intro (by omega) ?_))
    | ((first | with_reducible apply WL_nil | with_reducible apply W_label | with_reducible apply W_skip | with_reducible apply W_exit | with_reducible apply W_ret); try simp only [seqK, blockK, scopeK, ↓reduceIte, Nat.reduceEqDiff])
    | (with_reducible apply W_cond_k; intro _ _ ea eb; (simp only [condK, not_true_eq_false, not_false_eq_true, opnd, constPV, List.getD_cons_zero, List.getD_cons_succ, fr_getD_cons, fr_getD_nil, Nat.reduceEqDiff, Nat.reduceLT, ↓reduceIte, hcb, reduceCtorEq, false_implies, true_implies, forall_const, bne_iff_ne, beq_iff_eq, ne_eq]); subst ea eb; first | (refine ⟨fun hc => ?_, fun hc => ?_⟩ <;> first | (exfalso; omega) | (exfalso; exact hc trivial) | skip) | skip)
    | (with_reducible apply hnx; clear hnx nx)
    | (with_reducible refine And.intro (by omega) ?_)
    | (with_reducible refine And.intro ?_ ?_)
    | (with_reducible refine pcall_k (c0) ?_; rintro _ _ ⟨rfl, rfl⟩ -; refine Ev_in ?_)
    | (clear hnx nx; with_reducible apply hnx; clear hnx nx)
    | (clear hnx nx; clear hnx nx; with_reducible apply hnx; clear hnx nx)
    | (clear hnx nx; clear hnx nx; clear hnx nx; with_reducible apply hnx; clear hnx nx))
    all_goals first
      | (exfalso
         omega)
      | (refine hfin _ _ (Fin_ret2 rfl rfl (Sub_nil _) ?_); simp only [List.getD_cons_zero, List.getD_cons_succ, fr_getD_cons, fr_getD_nil, Nat.reduceEqDiff, Nat.reduceLT, ↓reduceIte]
         rw [dayF, if_neg hok]
         exact ⟨rfl, trivial⟩)
set_option maxRecDepth 100000 in
set_option maxHeartbeats 8000000 in
theorem rdate_c (G : Globs) (n : Int) : PCalls Tryd.prog G 15 [pint .i64 n] [] (fun res H => res = dateT n ∧ H = []) := by
  by_cases hv : 1 ≤ n ∧ n ≤ 1022679
  · (refine PCalls_f Tryd.func15 rfl Tryd.ntmps15 Tryd.results15 (by simp) fun fin hfin => ?_; have hnm : True := trivial; simp (maxSteps := 2000000) (disch := omega) only [evb, ↓popG_eq, ↓pop.eq_1, ↓List.getElem?_map, ↓List.getElem?_cons_zero, ↓List.getElem?_cons_succ, pbuiltin, opnd, constPV, PState.put, layFrom, List.set, pnck, seqK, blockK, scopeK, pbin, pun, ppick, plen, pldop, pload, pfaddr, piaddr, pindex, pfield, pslice, pbound, pconv, pelems, pextract, pmm, parr, pbuild, pfill, PV.mem?, PV.one, PV.cells, pageq, peqs, peq1, palloc, pbox, pbuildS, pmakes, pstore, pappend, pcopy, pbytes, pmark, psrc, vcells, Value.oneCell', look, upd, del, names, Nat.reduceAdd, Nat.reduceMul, Nat.reduceSub, Nat.reduceLeDiff, Nat.reduceEqDiff, ↓reduceIte, ne_eq, reduceCtorEq, forall_const, times, Value.cells, exists_and_left, exists_eq_left', eq_self, Nat.reduceLT, Int.reduceLT, Int.reduceLE, Int.reduceToNat, Int.reduceAdd, Int.reduceSub, Int.reduceNeg, hnm, Tryd.tf3, Tryd.tf4, Tryd.tf22, Tryd.teq30, Tryd.teq57, Tryd.teq58, Tryd.teq79, Tryd.teq80, Tryd.teq86, Tryd.teq88, Tryd.teq96, Tryd.teq98, Tryd.call40])
    repeat' (first
    | (with_reducible apply W_seq_k; intro nx hnx)
    | with_reducible apply W_block
    | with_reducible apply W_scope
    | (with_reducible refine W_prune 509 ?_; simp only [prune_cons, prune_nil, Nat.reducePow, Nat.reduceDiv, Nat.reduceMod, Nat.reduceBEq, cond_true, cond_false]; with_reducible apply W_region_l)
    | ((first | (with_reducible apply WL_op; intro nx hnx) | with_reducible refine Ev_out ?_); try (simp (maxSteps := 2000000) (disch := omega) only [evb, ↓popG_eq, ↓pop.eq_1, ↓List.getElem?_map, ↓List.getElem?_cons_zero, ↓List.getElem?_cons_succ, pbuiltin, opnd, constPV, PState.put, layFrom, List.set, pnck, seqK, blockK, scopeK, pbin, pun, ppick, plen, pldop, pload, pfaddr, piaddr, pindex, pfield, pslice, pbound, pconv, pelems, pextract, pmm, parr, pbuild, pfill, PV.mem?, PV.one, PV.cells, pageq, peqs, peq1, palloc, pbox, pbuildS, pmakes, pstore, pappend, pcopy, pbytes, pmark, psrc, vcells, Value.oneCell', look, upd, del, names, Nat.reduceAdd, Nat.reduceMul, Nat.reduceSub, Nat.reduceLeDiff, Nat.reduceEqDiff, ↓reduceIte, ne_eq, reduceCtorEq, forall_const, times, Value.cells, exists_and_left, exists_eq_left', eq_self, Nat.reduceLT, Int.reduceLT, Int.reduceLE, Int.reduceToNat, Int.reduceAdd, Int.reduceSub, Int.reduceNeg, hnm, Tryd.tf3, Tryd.tf4, Tryd.tf22, Tryd.teq30, Tryd.teq57, Tryd.teq58, Tryd.teq79, Tryd.teq80, Tryd.teq86, Tryd.teq88, Tryd.teq96, Tryd.teq98, Tryd.call40]); repeat (refine And.intro (by omega) ?_))
    | ((first | with_reducible apply WL_nil | with_reducible apply W_label | with_reducible apply W_skip | with_reducible apply W_exit | with_reducible apply W_ret); try simp only [seqK, blockK, scopeK, ↓reduceIte, Nat.reduceEqDiff])
    | (with_reducible apply pguard_intro <;> (intro hc; (try simp only [hcb, reduceCtorEq, false_implies, true_implies, forall_const, bne_iff_ne, beq_iff_eq, ne_eq] at hc); first | (exfalso; omega) | (exfalso; exact hc trivial) | refine Ev_in ?_))
    | (with_reducible apply W_cond_k; intro _ _ ea eb; (simp only [condK, not_true_eq_false, not_false_eq_true, opnd, constPV, List.getD_cons_zero, List.getD_cons_succ, fr_getD_cons, fr_getD_nil, Nat.reduceEqDiff, Nat.reduceLT, ↓reduceIte, hcb, reduceCtorEq, false_implies, true_implies, forall_const, bne_iff_ne, beq_iff_eq, ne_eq]); subst ea eb; first | (refine ⟨fun hc => ?_, fun hc => ?_⟩ <;> first | (exfalso; omega) | (exfalso; exact hc trivial) | skip) | skip)
    | (with_reducible apply hnx; clear hnx nx)
    | (with_reducible refine And.intro (by omega) ?_)
    | (with_reducible refine And.intro ?_ ?_)
    | (clear hnx nx; with_reducible apply hnx; clear hnx nx)
    | (clear hnx nx; clear hnx nx; with_reducible apply hnx; clear hnx nx)
    | (clear hnx nx; clear hnx nx; clear hnx nx; with_reducible apply hnx; clear hnx nx))
    all_goals first
      | (exfalso
         omega)
      | skip
    refine W_loop_k (fun k τ => ∃ y : Int, 1 ≤ y ∧ startI y ≤ n ∧ k = (2801 - y).toNat ∧ τ = ⟨fr 43 [(6, pint .i64 y), (7, pint .i64 (n - startI y + 1))], []⟩) 2800 ⟨fr 43 [(6, pint .i64 1), (7, pint .i64 (n - startI 1 + 1))], []⟩ (by
      rw [show startI 1 = 1 by rfl, Int.sub_add_cancel]
      exact Wk_fr (by simp only [List.forall_mem_cons, List.not_mem_nil, false_implies, implies_true, and_true, true_and, and_self, fr_getD_cons, fr_getD_nil, Nat.reduceEqDiff, Nat.reduceLT, ↓reduceIte, Int.natCast_add, Int.cast_ofNat_Int, Int.natCast_zero]) (Sub_nil _)) ⟨1, by omega, by rw [show startI 1 = 1 by rfl]; omega, rfl, rfl⟩ ?_
    rintro k τ ⟨y, hy1, hys, rfl, rfl⟩ lp hlp
    have hy3 := yr_le hys hv.2
    have c1 := rlen_c G y 2 (by omega) (by omega) (by omega) (by omega)
    have l1 := lenM_pos y (m := 2) (by omega) (by omega)
    have s1 := startI_le (y := y) (by omega) (by omega)
    have l2 : yearL y = 337 + lenM y 2 := by rw [lenM, if_pos rfl]; omega
    have s2 := startI_succ y
    have e1 : n - startI y + 1 - 337 - lenM y 2 = n - startI (y + 1) + 1 := by omega
    repeat' (first
    | (with_reducible apply W_seq_k; intro nx hnx)
    | with_reducible apply W_block
    | with_reducible apply W_scope
    | (with_reducible refine W_prune 509 ?_; simp only [prune_cons, prune_nil, Nat.reducePow, Nat.reduceDiv, Nat.reduceMod, Nat.reduceBEq, cond_true, cond_false]; with_reducible apply W_region_l)
    | ((first | (with_reducible apply WL_op; intro nx hnx) | with_reducible refine Ev_out ?_); try (simp (maxSteps := 2000000) (disch := omega) only [evb, ↓popG_eq, ↓pop.eq_1, ↓List.getElem?_map, ↓List.getElem?_cons_zero, ↓List.getElem?_cons_succ, pbuiltin, opnd, constPV, PState.put, layFrom, List.set, pnck, seqK, blockK, scopeK, pbin, pun, ppick, plen, pldop, pload, pfaddr, piaddr, pindex, pfield, pslice, pbound, pconv, pelems, pextract, pmm, parr, pbuild, pfill, PV.mem?, PV.one, PV.cells, pageq, peqs, peq1, palloc, pbox, pbuildS, pmakes, pstore, pappend, pcopy, pbytes, pmark, psrc, vcells, Value.oneCell', look, upd, del, names, Nat.reduceAdd, Nat.reduceMul, Nat.reduceSub, Nat.reduceLeDiff, Nat.reduceEqDiff, ↓reduceIte, ne_eq, reduceCtorEq, forall_const, times, Value.cells, exists_and_left, exists_eq_left', eq_self, Nat.reduceLT, Int.reduceLT, Int.reduceLE, Int.reduceToNat, Int.reduceAdd, Int.reduceSub, Int.reduceNeg, hnm, Tryd.tf3, Tryd.tf4, Tryd.tf22, Tryd.teq30, Tryd.teq57, Tryd.teq58, Tryd.teq79, Tryd.teq80, Tryd.teq86, Tryd.teq88, Tryd.teq96, Tryd.teq98, Tryd.call40, e1]); repeat (refine And.intro (by omega) ?_))
    | ((first | with_reducible apply WL_nil | with_reducible apply W_label | with_reducible apply W_skip | with_reducible apply W_exit | with_reducible apply W_ret); try simp only [seqK, blockK, scopeK, ↓reduceIte, Nat.reduceEqDiff])
    | (with_reducible apply pguard_intro <;> (intro hc; (try simp only [hcb, reduceCtorEq, false_implies, true_implies, forall_const, bne_iff_ne, beq_iff_eq, ne_eq] at hc); first | (exfalso; omega) | (exfalso; exact hc trivial) | refine Ev_in ?_))
    | (with_reducible apply W_cond_k; intro _ _ ea eb; (simp only [condK, not_true_eq_false, not_false_eq_true, opnd, constPV, List.getD_cons_zero, List.getD_cons_succ, fr_getD_cons, fr_getD_nil, Nat.reduceEqDiff, Nat.reduceLT, ↓reduceIte, hcb, reduceCtorEq, false_implies, true_implies, forall_const, bne_iff_ne, beq_iff_eq, ne_eq]); subst ea eb; first | (refine ⟨fun hc => ?_, fun hc => ?_⟩ <;> first | (exfalso; omega) | (exfalso; exact hc trivial) | skip) | skip)
    | (with_reducible apply hnx; clear hnx nx)
    | (with_reducible refine And.intro (by omega) ?_)
    | (with_reducible refine And.intro ?_ ?_)
    | (with_reducible refine pcall_k (c1) ?_; rintro _ _ ⟨rfl, rfl⟩ -; refine Ev_in ?_)
    | (clear hnx nx; with_reducible apply hnx; clear hnx nx)
    | (clear hnx nx; clear hnx nx; with_reducible apply hnx; clear hnx nx)
    | (clear hnx nx; clear hnx nx; clear hnx nx; with_reducible apply hnx; clear hnx nx))
    all_goals first
      | (exfalso
         omega)
      | skip
    · refine hlp _ (2801 - (y + 1)).toNat _ (by omega) ?_ ⟨y + 1, by omega, by omega, rfl, rfl⟩
      exact Wk_fr (by simp only [List.forall_mem_cons, List.not_mem_nil, false_implies, implies_true, and_true, true_and, and_self, fr_getD_cons, fr_getD_nil, Nat.reduceEqDiff, Nat.reduceLT, ↓reduceIte, Int.natCast_add, Int.cast_ofNat_Int, Int.natCast_zero]) (Sub_nil _)
    · clear hlp lp c1
      have hyn : n < startI y + yearL y := by omega
      refine W_loop_k (fun k τ => ∃ m : Int, 1 ≤ m ∧ m ≤ 12 ∧ cumM y m ≤ n - startI y ∧ k = (13 - m).toNat ∧ τ = ⟨fr 43 [(6, pint .i64 y), (7, pint .i64 (n - startI y + 1 - cumM y m)), (8, pint .i64 m)], []⟩) 12 ⟨fr 43 [(6, pint .i64 y), (7, pint .i64 (n - startI y + 1 - cumM y 1)), (8, pint .i64 1)], []⟩ (by
        rw [cumM_one, Int.sub_zero]
        exact Wk_fr (by simp only [List.forall_mem_cons, List.not_mem_nil, false_implies, implies_true, and_true, true_and, and_self, fr_getD_cons, fr_getD_nil, Nat.reduceEqDiff, Nat.reduceLT, ↓reduceIte, Int.natCast_add, Int.cast_ofNat_Int, Int.natCast_zero]) (Sub_nil _)) ⟨1, by omega, by omega, by rw [cumM_one]; omega, rfl, rfl⟩ ?_
      rintro k τ ⟨m, hm1, hm2, hc1, rfl, rfl⟩ lp hlp
      have c1 := rlen_c G y m (by omega) (by omega) (by omega) (by omega)
      have l1 := lenM_pos y (m := m) (by omega) (by omega)
      have u1 := cumM_le y (m := m) (by omega) (by omega)
      have e1 : n - startI y + 1 - cumM y m - lenM y m = n - startI y + 1 - cumM y (m + 1) := by rw [cumM_succ y hm1 hm2]; omega
      repeat' (first
    | (with_reducible apply W_seq_k; intro nx hnx)
    | with_reducible apply W_block
    | with_reducible apply W_scope
    | (with_reducible refine W_prune 509 ?_; simp only [prune_cons, prune_nil, Nat.reducePow, Nat.reduceDiv, Nat.reduceMod, Nat.reduceBEq, cond_true, cond_false]; with_reducible apply W_region_l)
    | ((first | (with_reducible apply WL_op; intro nx hnx) | with_reducible refine Ev_out ?_); try (simp (maxSteps := 2000000) (disch := omega) only [evb, ↓popG_eq, ↓pop.eq_1, ↓List.getElem?_map, ↓List.getElem?_cons_zero, ↓List.getElem?_cons_succ, pbuiltin, opnd, constPV, PState.put, layFrom, List.set, pnck, seqK, blockK, scopeK, pbin, pun, ppick, plen, pldop, pload, pfaddr, piaddr, pindex, pfield, pslice, pbound, pconv, pelems, pextract, pmm, parr, pbuild, pfill, PV.mem?, PV.one, PV.cells, pageq, peqs, peq1, palloc, pbox, pbuildS, pmakes, pstore, pappend, pcopy, pbytes, pmark, psrc, vcells, Value.oneCell', look, upd, del, names, Nat.reduceAdd, Nat.reduceMul, Nat.reduceSub, Nat.reduceLeDiff, Nat.reduceEqDiff, ↓reduceIte, ne_eq, reduceCtorEq, forall_const, times, Value.cells, exists_and_left, exists_eq_left', eq_self, Nat.reduceLT, Int.reduceLT, Int.reduceLE, Int.reduceToNat, Int.reduceAdd, Int.reduceSub, Int.reduceNeg, hnm, Tryd.tf3, Tryd.tf4, Tryd.tf22, Tryd.teq30, Tryd.teq57, Tryd.teq58, Tryd.teq79, Tryd.teq80, Tryd.teq86, Tryd.teq88, Tryd.teq96, Tryd.teq98, Tryd.call40, e1]); repeat (refine And.intro (by omega) ?_))
    | ((first | with_reducible apply WL_nil | with_reducible apply W_label | with_reducible apply W_skip | with_reducible apply W_exit | with_reducible apply W_ret); try simp only [seqK, blockK, scopeK, ↓reduceIte, Nat.reduceEqDiff])
    | (with_reducible apply pguard_intro <;> (intro hc; (try simp only [hcb, reduceCtorEq, false_implies, true_implies, forall_const, bne_iff_ne, beq_iff_eq, ne_eq] at hc); first | (exfalso; omega) | (exfalso; exact hc trivial) | refine Ev_in ?_))
    | (with_reducible apply W_cond_k; intro _ _ ea eb; (simp only [condK, not_true_eq_false, not_false_eq_true, opnd, constPV, List.getD_cons_zero, List.getD_cons_succ, fr_getD_cons, fr_getD_nil, Nat.reduceEqDiff, Nat.reduceLT, ↓reduceIte, hcb, reduceCtorEq, false_implies, true_implies, forall_const, bne_iff_ne, beq_iff_eq, ne_eq]); subst ea eb; first | (refine ⟨fun hc => ?_, fun hc => ?_⟩ <;> first | (exfalso; omega) | (exfalso; exact hc trivial) | skip) | skip)
    | (with_reducible apply hnx; clear hnx nx)
    | (with_reducible refine And.intro (by omega) ?_)
    | (with_reducible refine And.intro ?_ ?_)
    | (with_reducible refine pcall_k (c1) ?_; rintro _ _ ⟨rfl, rfl⟩ -; refine Ev_in ?_)
    | (clear hnx nx; with_reducible apply hnx; clear hnx nx)
    | (clear hnx nx; clear hnx nx; with_reducible apply hnx; clear hnx nx)
    | (clear hnx nx; clear hnx nx; clear hnx nx; with_reducible apply hnx; clear hnx nx))
      all_goals first
        | (exfalso
           omega)
        | skip
      · have hm3 : m < 12 := by
          rcases Int.lt_or_le m 12 with h | h
          · exact h
          · have hm : m = 12 := by omega
            have a := cumM_succ y hm1 hm2
            subst hm
            have b := cumM_13 y
            rw [show (12 : Int) + 1 = 13 by rfl, b] at a
            omega
        refine hlp _ (13 - (m + 1)).toNat _ (by omega) ?_ ⟨m + 1, by omega, by omega, by rw [cumM_succ y hm1 hm2]; omega, rfl, rfl⟩
        exact Wk_fr (by simp only [List.forall_mem_cons, List.not_mem_nil, false_implies, implies_true, and_true, true_and, and_self, fr_getD_cons, fr_getD_nil, Nat.reduceEqDiff, Nat.reduceLT, ↓reduceIte, Int.natCast_add, Int.cast_ofNat_Int, Int.natCast_zero]) (Sub_nil _)
      · refine hfin _ _ (Fin_ret4 rfl rfl rfl rfl (Sub_nil _) ?_); simp only [List.getD_cons_zero, List.getD_cons_succ, fr_getD_cons, fr_getD_nil, Nat.reduceEqDiff, Nat.reduceLT, ↓reduceIte]
        rw [dateT_eq (y := y) (m := m) (d := n - startI y + 1 - cumM y m) (by unfold okD; omega) (by unfold dayN; omega) hv.1 hv.2]
        exact ⟨rfl, trivial⟩
  · (refine PCalls_f Tryd.func15 rfl Tryd.ntmps15 Tryd.results15 (by simp) fun fin hfin => ?_; have hnm : True := trivial; simp (maxSteps := 2000000) (disch := omega) only [evb, ↓popG_eq, ↓pop.eq_1, ↓List.getElem?_map, ↓List.getElem?_cons_zero, ↓List.getElem?_cons_succ, pbuiltin, opnd, constPV, PState.put, layFrom, List.set, pnck, seqK, blockK, scopeK, pbin, pun, ppick, plen, pldop, pload, pfaddr, piaddr, pindex, pfield, pslice, pbound, pconv, pelems, pextract, pmm, parr, pbuild, pfill, PV.mem?, PV.one, PV.cells, pageq, peqs, peq1, palloc, pbox, pbuildS, pmakes, pstore, pappend, pcopy, pbytes, pmark, psrc, vcells, Value.oneCell', look, upd, del, names, Nat.reduceAdd, Nat.reduceMul, Nat.reduceSub, Nat.reduceLeDiff, Nat.reduceEqDiff, ↓reduceIte, ne_eq, reduceCtorEq, forall_const, times, Value.cells, exists_and_left, exists_eq_left', eq_self, Nat.reduceLT, Int.reduceLT, Int.reduceLE, Int.reduceToNat, Int.reduceAdd, Int.reduceSub, Int.reduceNeg, hnm, Tryd.tf3, Tryd.tf4, Tryd.tf22, Tryd.teq30, Tryd.teq57, Tryd.teq58, Tryd.teq79, Tryd.teq80, Tryd.teq86, Tryd.teq88, Tryd.teq96, Tryd.teq98, Tryd.call40])
    repeat' (first
    | (with_reducible apply W_seq_k; intro nx hnx)
    | with_reducible apply W_block
    | with_reducible apply W_scope
    | (with_reducible refine W_prune 509 ?_; simp only [prune_cons, prune_nil, Nat.reducePow, Nat.reduceDiv, Nat.reduceMod, Nat.reduceBEq, cond_true, cond_false]; with_reducible apply W_region_l)
    | ((first | (with_reducible apply WL_op; intro nx hnx) | with_reducible refine Ev_out ?_); try (simp (maxSteps := 2000000) (disch := omega) only [evb, ↓popG_eq, ↓pop.eq_1, ↓List.getElem?_map, ↓List.getElem?_cons_zero, ↓List.getElem?_cons_succ, pbuiltin, opnd, constPV, PState.put, layFrom, List.set, pnck, seqK, blockK, scopeK, pbin, pun, ppick, plen, pldop, pload, pfaddr, piaddr, pindex, pfield, pslice, pbound, pconv, pelems, pextract, pmm, parr, pbuild, pfill, PV.mem?, PV.one, PV.cells, pageq, peqs, peq1, palloc, pbox, pbuildS, pmakes, pstore, pappend, pcopy, pbytes, pmark, psrc, vcells, Value.oneCell', look, upd, del, names, Nat.reduceAdd, Nat.reduceMul, Nat.reduceSub, Nat.reduceLeDiff, Nat.reduceEqDiff, ↓reduceIte, ne_eq, reduceCtorEq, forall_const, times, Value.cells, exists_and_left, exists_eq_left', eq_self, Nat.reduceLT, Int.reduceLT, Int.reduceLE, Int.reduceToNat, Int.reduceAdd, Int.reduceSub, Int.reduceNeg, hnm, Tryd.tf3, Tryd.tf4, Tryd.tf22, Tryd.teq30, Tryd.teq57, Tryd.teq58, Tryd.teq79, Tryd.teq80, Tryd.teq86, Tryd.teq88, Tryd.teq96, Tryd.teq98, Tryd.call40]); repeat (refine And.intro (by omega) ?_))
    | ((first | with_reducible apply WL_nil | with_reducible apply W_label | with_reducible apply W_skip | with_reducible apply W_exit | with_reducible apply W_ret); try simp only [seqK, blockK, scopeK, ↓reduceIte, Nat.reduceEqDiff])
    | (with_reducible apply pguard_intro <;> (intro hc; (try simp only [hcb, reduceCtorEq, false_implies, true_implies, forall_const, bne_iff_ne, beq_iff_eq, ne_eq] at hc); first | (exfalso; omega) | (exfalso; exact hc trivial) | refine Ev_in ?_))
    | (with_reducible apply W_cond_k; intro _ _ ea eb; (simp only [condK, not_true_eq_false, not_false_eq_true, opnd, constPV, List.getD_cons_zero, List.getD_cons_succ, fr_getD_cons, fr_getD_nil, Nat.reduceEqDiff, Nat.reduceLT, ↓reduceIte, hcb, reduceCtorEq, false_implies, true_implies, forall_const, bne_iff_ne, beq_iff_eq, ne_eq]); subst ea eb; first | (refine ⟨fun hc => ?_, fun hc => ?_⟩ <;> first | (exfalso; omega) | (exfalso; exact hc trivial) | skip) | skip)
    | (with_reducible apply hnx; clear hnx nx)
    | (with_reducible refine And.intro (by omega) ?_)
    | (with_reducible refine And.intro ?_ ?_)
    | (clear hnx nx; with_reducible apply hnx; clear hnx nx)
    | (clear hnx nx; clear hnx nx; with_reducible apply hnx; clear hnx nx)
    | (clear hnx nx; clear hnx nx; clear hnx nx; with_reducible apply hnx; clear hnx nx))
    all_goals first
      | (exfalso
         omega)
      | (refine hfin _ _ (Fin_ret4 rfl rfl rfl rfl (Sub_nil _) ?_); simp only [List.getD_cons_zero, List.getD_cons_succ, fr_getD_cons, fr_getD_nil, Nat.reduceEqDiff, Nat.reduceLT, ↓reduceIte]
         rw [dateT, if_neg (by omega)]
         exact ⟨rfl, trivial⟩)
end Go.PM

namespace Go.PM
open Go.Proofs
attribute [local irreducible] W PCalls pcall pcallI WL
theorem okS_iff {a b : Int} : okS a b = true ↔ 1 ≤ a ∧ a ≤ b ∧ b ≤ 1022679 := by simp [okS]
end Go.PM
