/- Joined texts (Cp Cq Cs Cu Ka Kb Cw Lv): the machine, the contracts, the laws. Conditions: none but those that each names. -/
import Derived.Test.YtileofnjcediaaaDoorJe
set_option linter.unusedSimpArgs false
set_option linter.unusedVariables false
namespace Go.PM
open Go.Proofs
attribute [local irreducible] W PCalls pcall pcallI WL
def ymB (y m : Int) : List UInt8 := pad4 y ++ 45 :: pad2 m
def ymdB (y m d : Int) : List UInt8 := pad4 y ++ 45 :: (pad2 m ++ 45 :: pad2 d)
/-- the shortest text of a date that begins, or ends, on a day -/
def beginP (n : Int) : List UInt8 := if dM n = 1 ∧ dD n = 1 then pad4 (dY n) else if dD n = 1 then ymB (dY n) (dM n) else ymdB (dY n) (dM n) (dD n)
def endP (n : Int) : List UInt8 := if dM n = 12 ∧ dD n = 31 then pad4 (dY n) else if dD n = lenM (dY n) (dM n) then ymB (dY n) (dM n) else ymdB (dY n) (dM n) (dD n)
theorem pad4_len (n : Int) : (pad4 n).length = 4 := rfl
theorem pad2_len (n : Int) : (pad2 n).length = 2 := rfl
theorem dateT_in {n : Int} (h1 : 1 ≤ n) (h2 : n ≤ 1022679) : dateT n = .tuple [pint .i64 (dY n), pint .i64 (dM n), pint .i64 (dD n), pint .i64 0] := by rw [dateT, if_pos ⟨h1, h2⟩]
set_option maxRecDepth 100000 in
set_option maxHeartbeats 8000000 in
theorem begin_c (G : Globs) (hG : GL G) (n : Int) (h1 : 1 ≤ n) (h2 : n ≤ 1022679) : PCalls Tryd.prog G 49 [pint .i64 n] [] (fun res H => res = pstr (beginP n) ∧ H = []) := by
  have c1 := date_c G hG n (by omega)
  rw [dateT_in h1 h2] at c1
  obtain ⟨⟨o1, o2, o3, o4, o5, o6⟩, he⟩ := date_ok h1 h2
  have l1 := lenM_pos (dY n) o3 o4
  unfold beginP
  generalize dY n = y at *
  generalize dM n = m at *
  generalize dD n = d at *
  have c2 := pad4_c G y (by omega) (by omega)
  have c3 := pad2_c G m (by omega) (by omega)
  have c4 := pad2_c G d (by omega) (by omega)
  simp only [ymB, ymdB]
  have k4 := pad4_len y
  have k3 := pad2_len m
  have k2 := pad2_len d
  generalize pad4 y = Y at *
  generalize pad2 m = M at *
  generalize pad2 d = D at *
  (refine PCalls_f Tryd.func49 rfl Tryd.ntmps49 Tryd.results49 (by simp) fun fin hfin => ?_; have hnm : True := trivial; simp (maxSteps := 2000000) (disch := omega) only [evb, ↓popG_eq, ↓pop.eq_1, ↓List.getElem?_map, ↓List.getElem?_cons_zero, ↓List.getElem?_cons_succ, pbuiltin, opnd, constPV, PState.put, layFrom, List.set, pnck, seqK, blockK, scopeK, pbin, pun, ppick, plen, pldop, pload, pfaddr, piaddr, pindex, pfield, pslice, pbound, pconv, pelems, pextract, pmm, parr, pbuild, pfill, PV.mem?, PV.one, PV.cells, pageq, peqs, peq1, palloc, pbox, pbuildS, pmakes, pstore, pappend, pcopy, pbytes, pmark, psrc, vcells, Value.oneCell', look, upd, del, names, Nat.reduceAdd, Nat.reduceMul, Nat.reduceSub, Nat.reduceLeDiff, Nat.reduceEqDiff, ↓reduceIte, ne_eq, reduceCtorEq, forall_const, times, Value.cells, exists_and_left, exists_eq_left', eq_self, Nat.reduceLT, Int.reduceLT, Int.reduceLE, Int.reduceToNat, Int.reduceAdd, Int.reduceSub, Int.reduceNeg, hnm, Tryd.tf0, Tryd.tf1, Tryd.tf2, Tryd.tf3, Tryd.tf4, Tryd.tf9, Tryd.tf22, Tryd.tf25, Tryd.teq30, Tryd.teq57, Tryd.teq58, Tryd.teq79, Tryd.teq80, Tryd.teq86, Tryd.teq88, Tryd.teq96, Tryd.teq98, Tryd.call14, Tryd.call48])
  repeat' (first
    | (with_reducible apply W_seq_k; intro nx hnx)
    | with_reducible apply W_block
    | with_reducible apply W_scope
    | (with_reducible refine W_prune 189 ?_; simp only [prune_cons, prune_nil, Nat.reducePow, Nat.reduceDiv, Nat.reduceMod, Nat.reduceBEq, cond_true, cond_false]; with_reducible apply W_region_l)
    | ((first | (with_reducible apply WL_op; intro nx hnx) | with_reducible refine Ev_out ?_); try (simp (maxSteps := 2000000) (disch := omega) only [evb, ↓popG_eq, ↓pop.eq_1, ↓List.getElem?_map, ↓List.getElem?_cons_zero, ↓List.getElem?_cons_succ, pbuiltin, opnd, constPV, PState.put, layFrom, List.set, pnck, seqK, blockK, scopeK, pbin, pun, ppick, plen, pldop, pload, pfaddr, piaddr, pindex, pfield, pslice, pbound, pconv, pelems, pextract, pmm, parr, pbuild, pfill, PV.mem?, PV.one, PV.cells, pageq, peqs, peq1, palloc, pbox, pbuildS, pmakes, pstore, pappend, pcopy, pbytes, pmark, psrc, vcells, Value.oneCell', look, upd, del, names, Nat.reduceAdd, Nat.reduceMul, Nat.reduceSub, Nat.reduceLeDiff, Nat.reduceEqDiff, ↓reduceIte, ne_eq, reduceCtorEq, forall_const, times, Value.cells, exists_and_left, exists_eq_left', eq_self, Nat.reduceLT, Int.reduceLT, Int.reduceLE, Int.reduceToNat, Int.reduceAdd, Int.reduceSub, Int.reduceNeg, hnm, Tryd.tf0, Tryd.tf1, Tryd.tf2, Tryd.tf3, Tryd.tf4, Tryd.tf9, Tryd.tf22, Tryd.tf25, Tryd.teq30, Tryd.teq57, Tryd.teq58, Tryd.teq79, Tryd.teq80, Tryd.teq86, Tryd.teq88, Tryd.teq96, Tryd.teq98, Tryd.call14, Tryd.call48, k4, k3, k2, List.append_assoc, List.cons_append, List.nil_append]); repeat (refine And.intro (by omega) ?_))
    | ((first | with_reducible apply WL_nil | with_reducible apply W_label | with_reducible apply W_skip | with_reducible apply W_exit | with_reducible apply W_ret); try simp only [seqK, blockK, scopeK, ↓reduceIte, Nat.reduceEqDiff])
    | (with_reducible apply pguard_intro <;> (intro hc; (try simp only [hcb, reduceCtorEq, false_implies, true_implies, forall_const, bne_iff_ne, beq_iff_eq, ne_eq] at hc); first | (exfalso; omega) | (exfalso; exact hc trivial) | refine Ev_in ?_))
    | (with_reducible apply W_cond_k; intro _ _ ea eb; (simp only [condK, not_true_eq_false, not_false_eq_true, opnd, constPV, List.getD_cons_zero, List.getD_cons_succ, fr_getD_cons, fr_getD_nil, Nat.reduceEqDiff, Nat.reduceLT, ↓reduceIte, hcb, reduceCtorEq, false_implies, true_implies, forall_const, bne_iff_ne, beq_iff_eq, ne_eq]); subst ea eb; first | (refine ⟨fun hc => ?_, fun hc => ?_⟩ <;> first | (exfalso; omega) | (exfalso; exact hc trivial) | skip) | skip)
    | (with_reducible apply hnx; clear hnx nx)
    | (with_reducible refine And.intro (by omega) ?_)
    | (with_reducible refine And.intro ?_ ?_)
    | (with_reducible refine pcall_k (c1) ?_; rintro _ _ ⟨rfl, rfl⟩ -; refine Ev_in ?_)
    | (with_reducible refine pcall_k (c2) ?_; rintro _ _ ⟨rfl, rfl⟩ -; refine Ev_in ?_)
    | (with_reducible refine pcall_k (c3) ?_; rintro _ _ ⟨rfl, rfl⟩ -; refine Ev_in ?_)
    | (with_reducible refine pcall_k (c4) ?_; rintro _ _ ⟨rfl, rfl⟩ -; refine Ev_in ?_)
    | (clear hnx nx; with_reducible apply hnx; clear hnx nx)
    | (clear hnx nx; clear hnx nx; with_reducible apply hnx; clear hnx nx)
    | (clear hnx nx; clear hnx nx; clear hnx nx; with_reducible apply hnx; clear hnx nx))
  all_goals first
    | (exfalso
       omega)
    | (first
         | rw [if_pos (by omega)] at hfin
         | rw [if_neg (by omega), if_pos (by omega)] at hfin
         | rw [if_neg (by omega), if_neg (by omega)] at hfin
       (refine hfin _ _ (Fin_ret1 rfl (Sub_nil _) ?_); simp only [List.getD_cons_zero, List.getD_cons_succ, fr_getD_cons, fr_getD_nil, Nat.reduceEqDiff, Nat.reduceLT, ↓reduceIte]; first | trivial | exact ⟨rfl, by trivial⟩ | (simp; done) | (simp; omega)))
set_option maxRecDepth 100000 in
set_option maxHeartbeats 8000000 in
theorem end_c (G : Globs) (hG : GL G) (n : Int) (h1 : 1 ≤ n) (h2 : n ≤ 1022679) : PCalls Tryd.prog G 50 [pint .i64 n] [] (fun res H => res = pstr (endP n) ∧ H = []) := by
  have c1 := date_c G hG n (by omega)
  rw [dateT_in h1 h2] at c1
  obtain ⟨⟨o1, o2, o3, o4, o5, o6⟩, he⟩ := date_ok h1 h2
  have l1 := lenM_pos (dY n) o3 o4
  unfold endP
  generalize dY n = y at *
  generalize dM n = m at *
  generalize dD n = d at *
  have c2 := pad4_c G y (by omega) (by omega)
  have c3 := pad2_c G m (by omega) (by omega)
  have c4 := pad2_c G d (by omega) (by omega)
  have c5 := len_c G hG y m (by omega) (by omega) (by omega) (by omega)
  simp only [ymB, ymdB]
  have k4 := pad4_len y
  have k3 := pad2_len m
  have k2 := pad2_len d
  generalize pad4 y = Y at *
  generalize pad2 m = M at *
  generalize pad2 d = D at *
  generalize lenM y m = L at *
  (refine PCalls_f Tryd.func50 rfl Tryd.ntmps50 Tryd.results50 (by simp) fun fin hfin => ?_; have hnm : True := trivial; simp (maxSteps := 2000000) (disch := omega) only [evb, ↓popG_eq, ↓pop.eq_1, ↓List.getElem?_map, ↓List.getElem?_cons_zero, ↓List.getElem?_cons_succ, pbuiltin, opnd, constPV, PState.put, layFrom, List.set, pnck, seqK, blockK, scopeK, pbin, pun, ppick, plen, pldop, pload, pfaddr, piaddr, pindex, pfield, pslice, pbound, pconv, pelems, pextract, pmm, parr, pbuild, pfill, PV.mem?, PV.one, PV.cells, pageq, peqs, peq1, palloc, pbox, pbuildS, pmakes, pstore, pappend, pcopy, pbytes, pmark, psrc, vcells, Value.oneCell', look, upd, del, names, Nat.reduceAdd, Nat.reduceMul, Nat.reduceSub, Nat.reduceLeDiff, Nat.reduceEqDiff, ↓reduceIte, ne_eq, reduceCtorEq, forall_const, times, Value.cells, exists_and_left, exists_eq_left', eq_self, Nat.reduceLT, Int.reduceLT, Int.reduceLE, Int.reduceToNat, Int.reduceAdd, Int.reduceSub, Int.reduceNeg, hnm, Tryd.tf0, Tryd.tf1, Tryd.tf2, Tryd.tf3, Tryd.tf4, Tryd.tf9, Tryd.tf22, Tryd.tf25, Tryd.teq30, Tryd.teq57, Tryd.teq58, Tryd.teq79, Tryd.teq80, Tryd.teq86, Tryd.teq88, Tryd.teq96, Tryd.teq98, Tryd.call14, Tryd.call36, Tryd.call48])
  repeat' (first
    | (with_reducible apply W_seq_k; intro nx hnx)
    | with_reducible apply W_block
    | with_reducible apply W_scope
    | (with_reducible refine W_prune 189 ?_; simp only [prune_cons, prune_nil, Nat.reducePow, Nat.reduceDiv, Nat.reduceMod, Nat.reduceBEq, cond_true, cond_false]; with_reducible apply W_region_l)
    | ((first | (with_reducible apply WL_op; intro nx hnx) | with_reducible refine Ev_out ?_); try (simp (maxSteps := 2000000) (disch := omega) only [evb, ↓popG_eq, ↓pop.eq_1, ↓List.getElem?_map, ↓List.getElem?_cons_zero, ↓List.getElem?_cons_succ, pbuiltin, opnd, constPV, PState.put, layFrom, List.set, pnck, seqK, blockK, scopeK, pbin, pun, ppick, plen, pldop, pload, pfaddr, piaddr, pindex, pfield, pslice, pbound, pconv, pelems, pextract, pmm, parr, pbuild, pfill, PV.mem?, PV.one, PV.cells, pageq, peqs, peq1, palloc, pbox, pbuildS, pmakes, pstore, pappend, pcopy, pbytes, pmark, psrc, vcells, Value.oneCell', look, upd, del, names, Nat.reduceAdd, Nat.reduceMul, Nat.reduceSub, Nat.reduceLeDiff, Nat.reduceEqDiff, ↓reduceIte, ne_eq, reduceCtorEq, forall_const, times, Value.cells, exists_and_left, exists_eq_left', eq_self, Nat.reduceLT, Int.reduceLT, Int.reduceLE, Int.reduceToNat, Int.reduceAdd, Int.reduceSub, Int.reduceNeg, hnm, Tryd.tf0, Tryd.tf1, Tryd.tf2, Tryd.tf3, Tryd.tf4, Tryd.tf9, Tryd.tf22, Tryd.tf25, Tryd.teq30, Tryd.teq57, Tryd.teq58, Tryd.teq79, Tryd.teq80, Tryd.teq86, Tryd.teq88, Tryd.teq96, Tryd.teq98, Tryd.call14, Tryd.call36, Tryd.call48, k4, k3, k2, List.append_assoc, List.cons_append, List.nil_append]); repeat (refine And.intro (by omega) ?_))
    | ((first | with_reducible apply WL_nil | with_reducible apply W_label | with_reducible apply W_skip | with_reducible apply W_exit | with_reducible apply W_ret); try simp only [seqK, blockK, scopeK, ↓reduceIte, Nat.reduceEqDiff])
    | (with_reducible apply pguard_intro <;> (intro hc; (try simp only [hcb, reduceCtorEq, false_implies, true_implies, forall_const, bne_iff_ne, beq_iff_eq, ne_eq] at hc); first | (exfalso; omega) | (exfalso; exact hc trivial) | refine Ev_in ?_))
    | (with_reducible apply W_cond_k; intro _ _ ea eb; (simp only [condK, not_true_eq_false, not_false_eq_true, opnd, constPV, List.getD_cons_zero, List.getD_cons_succ, fr_getD_cons, fr_getD_nil, Nat.reduceEqDiff, Nat.reduceLT, ↓reduceIte, hcb, reduceCtorEq, false_implies, true_implies, forall_const, bne_iff_ne, beq_iff_eq, ne_eq]); subst ea eb; first | (refine ⟨fun hc => ?_, fun hc => ?_⟩ <;> first | (exfalso; omega) | (exfalso; exact hc trivial) | skip) | skip)
    | (with_reducible apply hnx; clear hnx nx)
    | (with_reducible refine And.intro (by omega) ?_)
    | (with_reducible refine And.intro ?_ ?_)
    | (with_reducible refine pcall_k (c1) ?_; rintro _ _ ⟨rfl, rfl⟩ -; refine Ev_in ?_)
    | (with_reducible refine pcall_k (c2) ?_; rintro _ _ ⟨rfl, rfl⟩ -; refine Ev_in ?_)
    | (with_reducible refine pcall_k (c3) ?_; rintro _ _ ⟨rfl, rfl⟩ -; refine Ev_in ?_)
    | (with_reducible refine pcall_k (c4) ?_; rintro _ _ ⟨rfl, rfl⟩ -; refine Ev_in ?_)
    | (with_reducible refine pcall_k (c5) ?_; rintro _ _ ⟨rfl, rfl⟩ -; refine Ev_in ?_)
    | (clear hnx nx; with_reducible apply hnx; clear hnx nx)
    | (clear hnx nx; clear hnx nx; with_reducible apply hnx; clear hnx nx)
    | (clear hnx nx; clear hnx nx; clear hnx nx; with_reducible apply hnx; clear hnx nx))
  all_goals first
    | (exfalso
       omega)
    | (first
         | rw [if_pos (by omega)] at hfin
         | rw [if_neg (by omega), if_pos (by omega)] at hfin
         | rw [if_neg (by omega), if_neg (by omega)] at hfin
       (refine hfin _ _ (Fin_ret1 rfl (Sub_nil _) ?_); simp only [List.getD_cons_zero, List.getD_cons_succ, fr_getD_cons, fr_getD_nil, Nat.reduceEqDiff, Nat.reduceLT, ↓reduceIte]; first | trivial | exact ⟨rfl, by trivial⟩ | (simp; done) | (simp; omega)))
/-- the year about which a span is -/
def aboutF (a b : Int) : Nat → Int → Option Int
  | 0, _ => none
  | k + 1, z => if a = startI (max 1 (z - 5)) ∧ b = startI (min 2800 (z + 4) + 1) - 1 then some z else aboutF a b k (z + 1)
def restP (a b : Int) : List UInt8 :=
  if a = dayN (dY a) (dM a) 1 ∧ b = dayN (dY a) (dM a) 1 + lenM (dY a) (dM a) - 1 then ymB (dY a) (dM a) else if a = b then ymdB (dY a) (dM a) (dD a) else beginP a ++ 47 :: endP b
/-- the text of a span -/
def printP (a b : Int) : List UInt8 :=
  if okS a b = false then []
  else if a = startI (dY a) ∧ b = startI (dY a + 1) - 1 then pad4 (dY a)
  else match aboutF a b (min 2800 (dY a + 5) + 1 - dY a).toNat (dY a) with
    | some z => 99 :: pad4 z
    | none => restP a b
theorem peq_span (a b c d : Int) : peqs [.int .i64, .int .i64] [pint .i64 a, pint .i64 b] [pint .i64 c, pint .i64 d] = some (decide (a = c ∧ b = d)) := by
  simp only [peqs, peq1, if_true]
  congr 1
  rw [Bool.eq_iff_iff]
  simp
set_option maxRecDepth 100000 in
set_option maxHeartbeats 8000000 in
theorem print_c (G : Globs) (hG : GL G) (a b : Int) : PCalls Tryd.prog G 20 [spn a b] [] (fun res H => res = pstr (printP a b) ∧ H = []) := by
  have c0 := valid_c G a b
  cases hv : okS a b
  · rw [printP, if_pos hv]
    rw [hv] at c0
    (refine PCalls_f Tryd.func20 rfl Tryd.ntmps20 Tryd.results20 (by simp) fun fin hfin => ?_; have hnm : True := trivial; simp (maxSteps := 2000000) (disch := omega) only [evb, ↓popG_eq, ↓pop.eq_1, ↓List.getElem?_map, ↓List.getElem?_cons_zero, ↓List.getElem?_cons_succ, pbuiltin, opnd, constPV, PState.put, layFrom, List.set, pnck, seqK, blockK, scopeK, pbin, pun, ppick, plen, pldop, pload, pfaddr, piaddr, pindex, pfield, pslice, pbound, pconv, pelems, pextract, pmm, parr, pbuild, pfill, PV.mem?, PV.one, PV.cells, pageq, peqs, peq1, palloc, pbox, pbuildS, pmakes, pstore, pappend, pcopy, pbytes, pmark, psrc, vcells, Value.oneCell', look, upd, del, names, Nat.reduceAdd, Nat.reduceMul, Nat.reduceSub, Nat.reduceLeDiff, Nat.reduceEqDiff, ↓reduceIte, ne_eq, reduceCtorEq, forall_const, times, Value.cells, exists_and_left, exists_eq_left', eq_self, Nat.reduceLT, Int.reduceLT, Int.reduceLE, Int.reduceToNat, Int.reduceAdd, Int.reduceSub, Int.reduceNeg, hnm, Tryd.tf0, Tryd.tf1, Tryd.tf2, Tryd.tf3, Tryd.tf4, Tryd.tf9, Tryd.tf22, Tryd.tf23, Tryd.tf25, Tryd.tf30, Tryd.teq30, Tryd.teq57, Tryd.teq58, Tryd.teq79, Tryd.teq80, Tryd.teq86, Tryd.teq88, Tryd.teq96, Tryd.teq98, Tryd.call12, Tryd.call14, Tryd.call23, Tryd.call36, Tryd.call43, Tryd.call48, Tryd.call49, Tryd.call50])
    repeat' (first
    | (with_reducible apply W_seq_k; intro nx hnx)
    | with_reducible apply W_block
    | with_reducible apply W_scope
    | (with_reducible refine W_prune 4511 ?_; simp only [prune_cons, prune_nil, Nat.reducePow, Nat.reduceDiv, Nat.reduceMod, Nat.reduceBEq, cond_true, cond_false]; with_reducible apply W_region_l)
    | (with_reducible refine W_prune 4511 ?_; simp only [prune_cons, prune_nil, Nat.reducePow, Nat.reduceDiv, Nat.reduceMod, Nat.reduceBEq, cond_true, cond_false]; with_reducible refine W_region_draw (id := 4) 1 (.op 0 true (.op 1 true (.op 2 true (.op 3 true (.op 4 true (.done)))))) (by kernel_rfl) ?_)
    | (with_reducible refine W_prune 4511 ?_; simp only [prune_cons, prune_nil, Nat.reducePow, Nat.reduceDiv, Nat.reduceMod, Nat.reduceBEq, cond_true, cond_false]; with_reducible refine W_region_draw (id := 9) 1 (.op 0 true (.op 1 true (.op 2 true (.op 3 true (.op 4 true (.op 5 true (.op 6 true (.op 7 true (.op 8 true (.done)))))))))) (by kernel_rfl) ?_)
    | (with_reducible refine W_prune 4511 ?_; simp only [prune_cons, prune_nil, Nat.reducePow, Nat.reduceDiv, Nat.reduceMod, Nat.reduceBEq, cond_true, cond_false]; with_reducible refine W_region_draw (id := 12) 1 (.op 0 true (.op 1 true (.op 2 true (.op 3 true (.op 4 true (.op 5 true (.op 6 true (.op 7 true (.op 8 true (.op 9 true (.done))))))))))) (by kernel_rfl) ?_)
    | (with_reducible refine W_prune 4511 ?_; simp only [prune_cons, prune_nil, Nat.reducePow, Nat.reduceDiv, Nat.reduceMod, Nat.reduceBEq, cond_true, cond_false]; with_reducible refine W_region_draw (id := 17) 1 (.op 0 true (.op 1 true (.op 4 true (.op 5 true (.op 2 true (.op 3 true (.op 6 true (.op 7 true (.op 8 true (.done)))))))))) (by kernel_rfl) ?_)
    | ((first | (with_reducible apply WL_op; intro nx hnx) | with_reducible refine Ev_out ?_ | (with_reducible apply popsD_op; intro nx hnx) | (with_reducible refine popsD_alt ?_ ?_; intro nx hnx) | (with_reducible refine pfresh_k hnm fun nm hnm => ?_; (try simp only [List.forall_mem_cons, List.not_mem_nil, false_implies, implies_true, and_true, true_and, ne_eq] at hnm))); try (simp (maxSteps := 2000000) (disch := omega) only [evb, ↓popG_eq, ↓pop.eq_1, ↓List.getElem?_map, ↓List.getElem?_cons_zero, ↓List.getElem?_cons_succ, pbuiltin, opnd, constPV, PState.put, layFrom, List.set, pnck, seqK, blockK, scopeK, pbin, pun, ppick, plen, pldop, pload, pfaddr, piaddr, pindex, pfield, pslice, pbound, pconv, pelems, pextract, pmm, parr, pbuild, pfill, PV.mem?, PV.one, PV.cells, pageq, peqs, peq1, palloc, pbox, pbuildS, pmakes, pstore, pappend, pcopy, pbytes, pmark, psrc, vcells, Value.oneCell', look, upd, del, names, Nat.reduceAdd, Nat.reduceMul, Nat.reduceSub, Nat.reduceLeDiff, Nat.reduceEqDiff, ↓reduceIte, ne_eq, reduceCtorEq, forall_const, times, Value.cells, exists_and_left, exists_eq_left', eq_self, Nat.reduceLT, Int.reduceLT, Int.reduceLE, Int.reduceToNat, Int.reduceAdd, Int.reduceSub, Int.reduceNeg, hnm, Tryd.tf0, Tryd.tf1, Tryd.tf2, Tryd.tf3, Tryd.tf4, Tryd.tf9, Tryd.tf22, Tryd.tf23, Tryd.tf25, Tryd.tf30, Tryd.teq30, Tryd.teq57, Tryd.teq58, Tryd.teq79, Tryd.teq80, Tryd.teq86, Tryd.teq88, Tryd.teq96, Tryd.teq98, Tryd.call12, Tryd.call14, Tryd.call23, Tryd.call36, Tryd.call43, Tryd.call48, Tryd.call49, Tryd.call50]); repeat (refine And.intro (by omega) ?_))
    | ((first | with_reducible apply WL_nil | with_reducible apply W_label | with_reducible apply W_skip | with_reducible apply W_exit | with_reducible apply W_ret | with_reducible apply popsD_done); try simp only [seqK, blockK, scopeK, ↓reduceIte, Nat.reduceEqDiff])
    | with_reducible exact popsD_stop
    | (with_reducible apply W_cond_k; intro _ _ ea eb; (simp only [condK, not_true_eq_false, not_false_eq_true, opnd, constPV, List.getD_cons_zero, List.getD_cons_succ, fr_getD_cons, fr_getD_nil, Nat.reduceEqDiff, Nat.reduceLT, ↓reduceIte, hcb, reduceCtorEq, false_implies, true_implies, forall_const, bne_iff_ne, beq_iff_eq, ne_eq]); subst ea eb; first | (refine ⟨fun hc => ?_, fun hc => ?_⟩ <;> first | (exfalso; omega) | (exfalso; exact hc trivial) | skip) | skip)
    | (with_reducible apply hnx; clear hnx nx)
    | (with_reducible refine And.intro (by omega) ?_)
    | (with_reducible refine And.intro ?_ ?_)
    | (with_reducible refine pcall_k (c0) ?_; rintro _ _ ⟨rfl, rfl⟩ -; refine Ev_in ?_)
    | (clear hnx nx; with_reducible apply hnx; clear hnx nx)
    | (clear hnx nx; clear hnx nx; with_reducible apply hnx; clear hnx nx)
    | (clear hnx nx; clear hnx nx; clear hnx nx; with_reducible apply hnx; clear hnx nx))
    all_goals (refine hfin _ _ (Fin_ret1 rfl (Sub_nil _) ?_); simp only [List.getD_cons_zero, List.getD_cons_succ, fr_getD_cons, fr_getD_nil, Nat.reduceEqDiff, Nat.reduceLT, ↓reduceIte]; first | trivial | exact ⟨rfl, by trivial⟩ | (simp; done) | (simp; omega))
  · rw [printP, if_neg (by rw [hv]; decide)]
    rw [hv] at c0
    rw [okS_iff] at hv
    have c1 := date_c G hG a (by omega)
    rw [dateT_in (by omega) (by omega)] at c1
    obtain ⟨⟨o1, o2, o3, o4, o5, o6⟩, he⟩ := date_ok (n := a) (by omega) (by omega)
    have c2 := years_c G (dY a) (dY a) (by omega) (by omega) (by omega) (by omega)
    have c3 := pad4_c G (dY a) (by omega) (by omega)
    by_cases h1 : a = startI (dY a) ∧ b = startI (dY a + 1) - 1
    · rw [if_pos h1]
      have hq := peq_span a b (startI (dY a)) (startI (dY a + 1) - 1)
      rw [decide_eq_true h1] at hq
      (refine PCalls_f Tryd.func20 rfl Tryd.ntmps20 Tryd.results20 (by simp) fun fin hfin => ?_; have hnm : True := trivial; simp (maxSteps := 2000000) (disch := omega) only [evb, ↓popG_eq, ↓pop.eq_1, ↓List.getElem?_map, ↓List.getElem?_cons_zero, ↓List.getElem?_cons_succ, pbuiltin, opnd, constPV, PState.put, layFrom, List.set, pnck, seqK, blockK, scopeK, pbin, pun, ppick, plen, pldop, pload, pfaddr, piaddr, pindex, pfield, pslice, pbound, pconv, pelems, pextract, pmm, parr, pbuild, pfill, PV.mem?, PV.one, PV.cells, pageq, peqs, peq1, palloc, pbox, pbuildS, pmakes, pstore, pappend, pcopy, pbytes, pmark, psrc, vcells, Value.oneCell', look, upd, del, names, Nat.reduceAdd, Nat.reduceMul, Nat.reduceSub, Nat.reduceLeDiff, Nat.reduceEqDiff, ↓reduceIte, ne_eq, reduceCtorEq, forall_const, times, Value.cells, exists_and_left, exists_eq_left', eq_self, Nat.reduceLT, Int.reduceLT, Int.reduceLE, Int.reduceToNat, Int.reduceAdd, Int.reduceSub, Int.reduceNeg, hnm, Tryd.tf0, Tryd.tf1, Tryd.tf2, Tryd.tf3, Tryd.tf4, Tryd.tf9, Tryd.tf22, Tryd.tf23, Tryd.tf25, Tryd.tf30, Tryd.teq30, Tryd.teq57, Tryd.teq58, Tryd.teq79, Tryd.teq80, Tryd.teq86, Tryd.teq88, Tryd.teq96, Tryd.teq98, Tryd.call12, Tryd.call14, Tryd.call23, Tryd.call36, Tryd.call43, Tryd.call48, Tryd.call49, Tryd.call50])
      repeat' (first
    | (with_reducible apply W_seq_k; intro nx hnx)
    | with_reducible apply W_block
    | with_reducible apply W_scope
    | (with_reducible refine W_prune 4511 ?_; simp only [prune_cons, prune_nil, Nat.reducePow, Nat.reduceDiv, Nat.reduceMod, Nat.reduceBEq, cond_true, cond_false]; with_reducible apply W_region_l)
    | (with_reducible refine W_prune 4511 ?_; simp only [prune_cons, prune_nil, Nat.reducePow, Nat.reduceDiv, Nat.reduceMod, Nat.reduceBEq, cond_true, cond_false]; with_reducible refine W_region_draw (id := 4) 1 (.op 0 true (.op 1 true (.op 2 true (.op 3 true (.op 4 true (.done)))))) (by kernel_rfl) ?_)
    | (with_reducible refine W_prune 4511 ?_; simp only [prune_cons, prune_nil, Nat.reducePow, Nat.reduceDiv, Nat.reduceMod, Nat.reduceBEq, cond_true, cond_false]; with_reducible refine W_region_draw (id := 9) 1 (.op 0 true (.op 1 true (.op 2 true (.op 3 true (.op 4 true (.op 5 true (.op 6 true (.op 7 true (.op 8 true (.done)))))))))) (by kernel_rfl) ?_)
    | (with_reducible refine W_prune 4511 ?_; simp only [prune_cons, prune_nil, Nat.reducePow, Nat.reduceDiv, Nat.reduceMod, Nat.reduceBEq, cond_true, cond_false]; with_reducible refine W_region_draw (id := 12) 1 (.op 0 true (.op 1 true (.op 2 true (.op 3 true (.op 4 true (.op 5 true (.op 6 true (.op 7 true (.op 8 true (.op 9 true (.done))))))))))) (by kernel_rfl) ?_)
    | (with_reducible refine W_prune 4511 ?_; simp only [prune_cons, prune_nil, Nat.reducePow, Nat.reduceDiv, Nat.reduceMod, Nat.reduceBEq, cond_true, cond_false]; with_reducible refine W_region_draw (id := 17) 1 (.op 0 true (.op 1 true (.op 4 true (.op 5 true (.op 2 true (.op 3 true (.op 6 true (.op 7 true (.op 8 true (.done)))))))))) (by kernel_rfl) ?_)
    | ((first | (with_reducible apply WL_op; intro nx hnx) | with_reducible refine Ev_out ?_ | (with_reducible apply popsD_op; intro nx hnx) | (with_reducible refine popsD_alt ?_ ?_; intro nx hnx) | (with_reducible refine pfresh_k hnm fun nm hnm => ?_; (try simp only [List.forall_mem_cons, List.not_mem_nil, false_implies, implies_true, and_true, true_and, ne_eq] at hnm))); try (simp (maxSteps := 2000000) (disch := omega) only [evb, ↓popG_eq, ↓pop.eq_1, ↓List.getElem?_map, ↓List.getElem?_cons_zero, ↓List.getElem?_cons_succ, pbuiltin, opnd, constPV, PState.put, layFrom, List.set, pnck, seqK, blockK, scopeK, pbin, pun, ppick, plen, pldop, pload, pfaddr, piaddr, pindex, pfield, pslice, pbound, pconv, pelems, pextract, pmm, parr, pbuild, pfill, PV.mem?, PV.one, PV.cells, pageq, peqs, peq1, palloc, pbox, pbuildS, pmakes, pstore, pappend, pcopy, pbytes, pmark, psrc, vcells, Value.oneCell', look, upd, del, names, Nat.reduceAdd, Nat.reduceMul, Nat.reduceSub, Nat.reduceLeDiff, Nat.reduceEqDiff, ↓reduceIte, ne_eq, reduceCtorEq, forall_const, times, Value.cells, exists_and_left, exists_eq_left', eq_self, Nat.reduceLT, Int.reduceLT, Int.reduceLE, Int.reduceToNat, Int.reduceAdd, Int.reduceSub, Int.reduceNeg, hnm, Tryd.tf0, Tryd.tf1, Tryd.tf2, Tryd.tf3, Tryd.tf4, Tryd.tf9, Tryd.tf22, Tryd.tf23, Tryd.tf25, Tryd.tf30, Tryd.teq30, Tryd.teq57, Tryd.teq58, Tryd.teq79, Tryd.teq80, Tryd.teq86, Tryd.teq88, Tryd.teq96, Tryd.teq98, Tryd.call12, Tryd.call14, Tryd.call23, Tryd.call36, Tryd.call43, Tryd.call48, Tryd.call49, Tryd.call50, hq]); repeat (refine And.intro (by omega) ?_))
    | ((first | with_reducible apply WL_nil | with_reducible apply W_label | with_reducible apply W_skip | with_reducible apply W_exit | with_reducible apply W_ret | with_reducible apply popsD_done); try simp only [seqK, blockK, scopeK, ↓reduceIte, Nat.reduceEqDiff])
    | with_reducible exact popsD_stop
    | (with_reducible apply W_cond_k; intro _ _ ea eb; (simp only [condK, not_true_eq_false, not_false_eq_true, opnd, constPV, List.getD_cons_zero, List.getD_cons_succ, fr_getD_cons, fr_getD_nil, Nat.reduceEqDiff, Nat.reduceLT, ↓reduceIte, hcb, reduceCtorEq, false_implies, true_implies, forall_const, bne_iff_ne, beq_iff_eq, ne_eq]); subst ea eb; first | (refine ⟨fun hc => ?_, fun hc => ?_⟩ <;> first | (exfalso; omega) | (exfalso; exact hc trivial) | skip) | skip)
    | (with_reducible apply hnx; clear hnx nx)
    | (with_reducible refine And.intro (by omega) ?_)
    | (with_reducible refine And.intro ?_ ?_)
    | (with_reducible refine pcall_k (c0) ?_; rintro _ _ ⟨rfl, rfl⟩ -; refine Ev_in ?_)
    | (with_reducible refine pcall_k (c1) ?_; rintro _ _ ⟨rfl, rfl⟩ -; refine Ev_in ?_)
    | (with_reducible refine pcall_k (c2) ?_; rintro _ _ ⟨rfl, rfl⟩ -; refine Ev_in ?_)
    | (with_reducible refine pcall_k (c3) ?_; rintro _ _ ⟨rfl, rfl⟩ -; refine Ev_in ?_)
    | (clear hnx nx; with_reducible apply hnx; clear hnx nx)
    | (clear hnx nx; clear hnx nx; with_reducible apply hnx; clear hnx nx)
    | (clear hnx nx; clear hnx nx; clear hnx nx; with_reducible apply hnx; clear hnx nx))
      all_goals first
        | (exfalso
           omega)
        | (refine hfin _ _ (Fin_ret1 rfl (Sub_nil _) ?_); simp only [List.getD_cons_zero, List.getD_cons_succ, fr_getD_cons, fr_getD_nil, Nat.reduceEqDiff, Nat.reduceLT, ↓reduceIte]; first | trivial | exact ⟨rfl, by trivial⟩ | (simp; done) | (simp; omega))
    · rw [if_neg h1]
      have hq := peq_span a b (startI (dY a)) (startI (dY a + 1) - 1)
      rw [decide_eq_false h1] at hq
      (refine PCalls_f Tryd.func20 rfl Tryd.ntmps20 Tryd.results20 (by simp) fun fin hfin => ?_; have hnm : True := trivial; simp (maxSteps := 2000000) (disch := omega) only [evb, ↓popG_eq, ↓pop.eq_1, ↓List.getElem?_map, ↓List.getElem?_cons_zero, ↓List.getElem?_cons_succ, pbuiltin, opnd, constPV, PState.put, layFrom, List.set, pnck, seqK, blockK, scopeK, pbin, pun, ppick, plen, pldop, pload, pfaddr, piaddr, pindex, pfield, pslice, pbound, pconv, pelems, pextract, pmm, parr, pbuild, pfill, PV.mem?, PV.one, PV.cells, pageq, peqs, peq1, palloc, pbox, pbuildS, pmakes, pstore, pappend, pcopy, pbytes, pmark, psrc, vcells, Value.oneCell', look, upd, del, names, Nat.reduceAdd, Nat.reduceMul, Nat.reduceSub, Nat.reduceLeDiff, Nat.reduceEqDiff, ↓reduceIte, ne_eq, reduceCtorEq, forall_const, times, Value.cells, exists_and_left, exists_eq_left', eq_self, Nat.reduceLT, Int.reduceLT, Int.reduceLE, Int.reduceToNat, Int.reduceAdd, Int.reduceSub, Int.reduceNeg, hnm, Tryd.tf0, Tryd.tf1, Tryd.tf2, Tryd.tf3, Tryd.tf4, Tryd.tf9, Tryd.tf22, Tryd.tf23, Tryd.tf25, Tryd.tf30, Tryd.teq30, Tryd.teq57, Tryd.teq58, Tryd.teq79, Tryd.teq80, Tryd.teq86, Tryd.teq88, Tryd.teq96, Tryd.teq98, Tryd.call12, Tryd.call14, Tryd.call23, Tryd.call36, Tryd.call43, Tryd.call48, Tryd.call49, Tryd.call50])
      repeat' (first
    | (with_reducible apply W_seq_k; intro nx hnx)
    | with_reducible apply W_block
    | with_reducible apply W_scope
    | (with_reducible refine W_prune 4511 ?_; simp only [prune_cons, prune_nil, Nat.reducePow, Nat.reduceDiv, Nat.reduceMod, Nat.reduceBEq, cond_true, cond_false]; with_reducible apply W_region_l)
    | (with_reducible refine W_prune 4511 ?_; simp only [prune_cons, prune_nil, Nat.reducePow, Nat.reduceDiv, Nat.reduceMod, Nat.reduceBEq, cond_true, cond_false]; with_reducible refine W_region_draw (id := 4) 1 (.op 0 true (.op 1 true (.op 2 true (.op 3 true (.op 4 true (.done)))))) (by kernel_rfl) ?_)
    | (with_reducible refine W_prune 4511 ?_; simp only [prune_cons, prune_nil, Nat.reducePow, Nat.reduceDiv, Nat.reduceMod, Nat.reduceBEq, cond_true, cond_false]; with_reducible refine W_region_draw (id := 9) 1 (.op 0 true (.op 1 true (.op 2 true (.op 3 true (.op 4 true (.op 5 true (.op 6 true (.op 7 true (.op 8 true (.done)))))))))) (by kernel_rfl) ?_)
    | (with_reducible refine W_prune 4511 ?_; simp only [prune_cons, prune_nil, Nat.reducePow, Nat.reduceDiv, Nat.reduceMod, Nat.reduceBEq, cond_true, cond_false]; with_reducible refine W_region_draw (id := 12) 1 (.op 0 true (.op 1 true (.op 2 true (.op 3 true (.op 4 true (.op 5 true (.op 6 true (.op 7 true (.op 8 true (.op 9 true (.done))))))))))) (by kernel_rfl) ?_)
    | (with_reducible refine W_prune 4511 ?_; simp only [prune_cons, prune_nil, Nat.reducePow, Nat.reduceDiv, Nat.reduceMod, Nat.reduceBEq, cond_true, cond_false]; with_reducible refine W_region_draw (id := 17) 1 (.op 0 true (.op 1 true (.op 4 true (.op 5 true (.op 2 true (.op 3 true (.op 6 true (.op 7 true (.op 8 true (.done)))))))))) (by kernel_rfl) ?_)
    | ((first | (with_reducible apply WL_op; intro nx hnx) | with_reducible refine Ev_out ?_ | (with_reducible apply popsD_op; intro nx hnx) | (with_reducible refine popsD_alt ?_ ?_; intro nx hnx) | (with_reducible refine pfresh_k hnm fun nm hnm => ?_; (try simp only [List.forall_mem_cons, List.not_mem_nil, false_implies, implies_true, and_true, true_and, ne_eq] at hnm))); try (simp (maxSteps := 2000000) (disch := omega) only [evb, ↓popG_eq, ↓pop.eq_1, ↓List.getElem?_map, ↓List.getElem?_cons_zero, ↓List.getElem?_cons_succ, pbuiltin, opnd, constPV, PState.put, layFrom, List.set, pnck, seqK, blockK, scopeK, pbin, pun, ppick, plen, pldop, pload, pfaddr, piaddr, pindex, pfield, pslice, pbound, pconv, pelems, pextract, pmm, parr, pbuild, pfill, PV.mem?, PV.one, PV.cells, pageq, peqs, peq1, palloc, pbox, pbuildS, pmakes, pstore, pappend, pcopy, pbytes, pmark, psrc, vcells, Value.oneCell', look, upd, del, names, Nat.reduceAdd, Nat.reduceMul, Nat.reduceSub, Nat.reduceLeDiff, Nat.reduceEqDiff, ↓reduceIte, ne_eq, reduceCtorEq, forall_const, times, Value.cells, exists_and_left, exists_eq_left', eq_self, Nat.reduceLT, Int.reduceLT, Int.reduceLE, Int.reduceToNat, Int.reduceAdd, Int.reduceSub, Int.reduceNeg, hnm, Tryd.tf0, Tryd.tf1, Tryd.tf2, Tryd.tf3, Tryd.tf4, Tryd.tf9, Tryd.tf22, Tryd.tf23, Tryd.tf25, Tryd.tf30, Tryd.teq30, Tryd.teq57, Tryd.teq58, Tryd.teq79, Tryd.teq80, Tryd.teq86, Tryd.teq88, Tryd.teq96, Tryd.teq98, Tryd.call12, Tryd.call14, Tryd.call23, Tryd.call36, Tryd.call43, Tryd.call48, Tryd.call49, Tryd.call50, hq]); repeat (refine And.intro (by omega) ?_))
    | ((first | with_reducible apply WL_nil | with_reducible apply W_label | with_reducible apply W_skip | with_reducible apply W_exit | with_reducible apply W_ret | with_reducible apply popsD_done); try simp only [seqK, blockK, scopeK, ↓reduceIte, Nat.reduceEqDiff])
    | with_reducible exact popsD_stop
    | (with_reducible apply W_cond_k; intro _ _ ea eb; (simp only [condK, not_true_eq_false, not_false_eq_true, opnd, constPV, List.getD_cons_zero, List.getD_cons_succ, fr_getD_cons, fr_getD_nil, Nat.reduceEqDiff, Nat.reduceLT, ↓reduceIte, hcb, reduceCtorEq, false_implies, true_implies, forall_const, bne_iff_ne, beq_iff_eq, ne_eq]); subst ea eb; first | (refine ⟨fun hc => ?_, fun hc => ?_⟩ <;> first | (exfalso; omega) | (exfalso; exact hc trivial) | skip) | skip)
    | (with_reducible apply hnx; clear hnx nx)
    | (with_reducible refine And.intro (by omega) ?_)
    | (with_reducible refine And.intro ?_ ?_)
    | (with_reducible refine pcall_k (c0) ?_; rintro _ _ ⟨rfl, rfl⟩ -; refine Ev_in ?_)
    | (with_reducible refine pcall_k (c1) ?_; rintro _ _ ⟨rfl, rfl⟩ -; refine Ev_in ?_)
    | (with_reducible refine pcall_k (c2) ?_; rintro _ _ ⟨rfl, rfl⟩ -; refine Ev_in ?_)
    | (with_reducible refine pcall_k (c3) ?_; rintro _ _ ⟨rfl, rfl⟩ -; refine Ev_in ?_)
    | (clear hnx nx; with_reducible apply hnx; clear hnx nx)
    | (clear hnx nx; clear hnx nx; with_reducible apply hnx; clear hnx nx)
    | (clear hnx nx; clear hnx nx; clear hnx nx; with_reducible apply hnx; clear hnx nx))
      all_goals first
        | (exfalso
           omega)
        | skip
      obtain ⟨N, hN⟩ : ∃ x, x = nm := ⟨_, rfl⟩
      subst hN
      clear hnm c2 hq
      have hnm : True := trivial
      have c6 := begin_c G hG a (by omega) (by omega)
      have c7 := end_c G hG b (by omega) (by omega)
      have hrest : restP a b = if a = dayN (dY a) (dM a) 1 ∧ b = dayN (dY a) (dM a) 1 + lenM (dY a) (dM a) - 1 then ymB (dY a) (dM a) else if a = b then ymdB (dY a) (dM a) (dD a) else beginP a ++ 47 :: endP b := rfl
      simp only [ymB, ymdB] at hrest
      have l1 := lenM_pos (dY a) o3 o4
      have hbl : (beginP a).length ≤ 10 := by
        unfold beginP ymB ymdB
        split
        · rw [pad4_len]; omega
        · split
          · simp [pad4_len, pad2_len]
          · simp [pad4_len, pad2_len]
      have hel : (endP b).length ≤ 10 := by
        unfold endP ymB ymdB
        split
        · rw [pad4_len]; omega
        · split
          · simp [pad4_len, pad2_len]
          · simp [pad4_len, pad2_len]
      generalize restP a b = Q at *
      generalize beginP a = X at *
      generalize endP b = Z at *
      generalize dY a = y at *
      generalize dM a = m at *
      generalize dD a = d at *
      obtain ⟨top, htop⟩ : ∃ t, t = min 2800 (y + 5) := ⟨_, rfl⟩
      have ht1 : top ≤ 2800 ∧ y ≤ top := by omega
      rw [← htop] at hfin
      have htop := htop.symm
      obtain ⟨A, hA⟩ : ∃ A, A = aboutF a b (top + 1 - y).toNat y := ⟨_, rfl⟩
      rw [← hA] at hfin
      refine W_loop_k (fun k τ => ∃ z : Int, y ≤ z ∧ z ≤ top + 1 ∧ k = (top + 1 - z).toNat ∧ A = aboutF a b (top + 1 - z).toNat z ∧ τ = ⟨fr 105 [(1, .ptr N 0), (3, pint .i64 y), (4, pint .i64 m), (7, pint .i64 z)], [(N, ⟨30, false, 0, [pint .i64 a, pint .i64 b]⟩)]⟩) (top + 1 - y).toNat
        ⟨fr 105 [(1, .ptr N 0), (3, pint .i64 y), (4, pint .i64 m), (7, pint .i64 y)], [(N, ⟨30, false, 0, [pint .i64 a, pint .i64 b]⟩)]⟩ (by
        refine Wk_fr (by simp only [List.forall_mem_cons, List.not_mem_nil, false_implies, implies_true, and_true, true_and, and_self, fr_getD_cons, fr_getD_nil, Nat.reduceEqDiff, Nat.reduceLT, ↓reduceIte, Int.natCast_add, Int.cast_ofNat_Int, Int.natCast_zero]) ?_
        exact ⟨by simp, by simp [names]⟩) ⟨y, by omega, by omega, rfl, hA, rfl⟩ ?_
      clear hA
      rintro k τ ⟨z, hz1, hz2, rfl, hA, rfl⟩ lp hlp
      by_cases hz : z ≤ top
      · have e1 : (top + 1 - z).toNat = (top + 1 - (z + 1)).toNat + 1 := by omega
        rw [e1, aboutF] at hA
        have c2 := years_c G (max 1 (z - 5)) (min 2800 (z + 4)) (by omega) (by omega) (by omega) (by omega)
        have c8 := pad4_c G z (by omega) (by omega)
        have k8 := pad4_len z
        generalize startI (max 1 (z - 5)) = s1 at *
        generalize startI (min 2800 (z + 4) + 1) - 1 = s2 at *
        by_cases hm : a = s1 ∧ b = s2
        · rw [if_pos hm] at hA
          rw [hA] at hfin
          simp only at hfin
          generalize pad4 z = W at *
          repeat' (first
    | (with_reducible apply W_seq_k; intro nx hnx)
    | with_reducible apply W_block
    | with_reducible apply W_scope
    | (with_reducible refine W_prune 4511 ?_; simp only [prune_cons, prune_nil, Nat.reducePow, Nat.reduceDiv, Nat.reduceMod, Nat.reduceBEq, cond_true, cond_false]; with_reducible apply W_region_l)
    | (with_reducible refine W_prune 4511 ?_; simp only [prune_cons, prune_nil, Nat.reducePow, Nat.reduceDiv, Nat.reduceMod, Nat.reduceBEq, cond_true, cond_false]; with_reducible refine W_region_draw (id := 4) 1 (.op 0 true (.op 1 true (.op 2 true (.op 3 true (.op 4 true (.done)))))) (by kernel_rfl) ?_)
    | (with_reducible refine W_prune 4511 ?_; simp only [prune_cons, prune_nil, Nat.reducePow, Nat.reduceDiv, Nat.reduceMod, Nat.reduceBEq, cond_true, cond_false]; with_reducible refine W_region_draw (id := 9) 1 (.op 0 true (.op 1 true (.op 2 true (.op 3 true (.op 4 true (.op 5 true (.op 6 true (.op 7 true (.op 8 true (.done)))))))))) (by kernel_rfl) ?_)
    | (with_reducible refine W_prune 4511 ?_; simp only [prune_cons, prune_nil, Nat.reducePow, Nat.reduceDiv, Nat.reduceMod, Nat.reduceBEq, cond_true, cond_false]; with_reducible refine W_region_draw (id := 12) 1 (.op 0 true (.op 1 true (.op 2 true (.op 3 true (.op 4 true (.op 5 true (.op 6 true (.op 7 true (.op 8 true (.op 9 true (.done))))))))))) (by kernel_rfl) ?_)
    | (with_reducible refine W_prune 4511 ?_; simp only [prune_cons, prune_nil, Nat.reducePow, Nat.reduceDiv, Nat.reduceMod, Nat.reduceBEq, cond_true, cond_false]; with_reducible refine W_region_draw (id := 17) 1 (.op 0 true (.op 1 true (.op 4 true (.op 5 true (.op 2 true (.op 3 true (.op 6 true (.op 7 true (.op 8 true (.done)))))))))) (by kernel_rfl) ?_)
    | ((first | (with_reducible apply WL_op; intro nx hnx) | with_reducible refine Ev_out ?_ | (with_reducible apply popsD_op; intro nx hnx) | (with_reducible refine popsD_alt ?_ ?_; intro nx hnx) | (with_reducible refine pfresh_k hnm fun nm hnm => ?_; (try simp only [List.forall_mem_cons, List.not_mem_nil, false_implies, implies_true, and_true, true_and, ne_eq] at hnm))); try (simp (maxSteps := 2000000) (disch := omega) only [evb, ↓popG_eq, ↓pop.eq_1, ↓List.getElem?_map, ↓List.getElem?_cons_zero, ↓List.getElem?_cons_succ, pbuiltin, opnd, constPV, PState.put, layFrom, List.set, pnck, seqK, blockK, scopeK, pbin, pun, ppick, plen, pldop, pload, pfaddr, piaddr, pindex, pfield, pslice, pbound, pconv, pelems, pextract, pmm, parr, pbuild, pfill, PV.mem?, PV.one, PV.cells, pageq, peqs, peq1, palloc, pbox, pbuildS, pmakes, pstore, pappend, pcopy, pbytes, pmark, psrc, vcells, Value.oneCell', look, upd, del, names, Nat.reduceAdd, Nat.reduceMul, Nat.reduceSub, Nat.reduceLeDiff, Nat.reduceEqDiff, ↓reduceIte, ne_eq, reduceCtorEq, forall_const, times, Value.cells, exists_and_left, exists_eq_left', eq_self, Nat.reduceLT, Int.reduceLT, Int.reduceLE, Int.reduceToNat, Int.reduceAdd, Int.reduceSub, Int.reduceNeg, hnm, Tryd.tf0, Tryd.tf1, Tryd.tf2, Tryd.tf3, Tryd.tf4, Tryd.tf9, Tryd.tf22, Tryd.tf23, Tryd.tf25, Tryd.tf30, Tryd.teq30, Tryd.teq57, Tryd.teq58, Tryd.teq79, Tryd.teq80, Tryd.teq86, Tryd.teq88, Tryd.teq96, Tryd.teq98, Tryd.call12, Tryd.call14, Tryd.call23, Tryd.call36, Tryd.call43, Tryd.call48, Tryd.call49, Tryd.call50, htop, k8, List.append_assoc, List.cons_append, List.nil_append]); repeat (refine And.intro (by omega) ?_))
    | ((first | with_reducible apply WL_nil | with_reducible apply W_label | with_reducible apply W_skip | with_reducible apply W_exit | with_reducible apply W_ret | with_reducible apply popsD_done); try simp only [seqK, blockK, scopeK, ↓reduceIte, Nat.reduceEqDiff])
    | with_reducible exact popsD_stop
    | (with_reducible apply W_cond_k; intro _ _ ea eb; (simp only [condK, not_true_eq_false, not_false_eq_true, opnd, constPV, List.getD_cons_zero, List.getD_cons_succ, fr_getD_cons, fr_getD_nil, Nat.reduceEqDiff, Nat.reduceLT, ↓reduceIte, hcb, reduceCtorEq, false_implies, true_implies, forall_const, bne_iff_ne, beq_iff_eq, ne_eq]); subst ea eb; first | (refine ⟨fun hc => ?_, fun hc => ?_⟩ <;> first | (exfalso; omega) | (exfalso; exact hc trivial) | skip) | skip)
    | (with_reducible apply hnx; clear hnx nx)
    | (with_reducible refine And.intro (by omega) ?_)
    | (with_reducible refine And.intro ?_ ?_)
    | (with_reducible refine pcall_k (c2) ?_; rintro _ _ ⟨rfl, rfl⟩ -; refine Ev_in ?_)
    | (with_reducible refine pcall_k (c8) ?_; rintro _ _ ⟨rfl, rfl⟩ -; refine Ev_in ?_)
    | (clear hnx nx; with_reducible apply hnx; clear hnx nx)
    | (clear hnx nx; clear hnx nx; with_reducible apply hnx; clear hnx nx)
    | (clear hnx nx; clear hnx nx; clear hnx nx; with_reducible apply hnx; clear hnx nx))
          all_goals first
            | (exfalso
               omega)
            | (refine hfin _ _ (Fin_ret1 rfl (Sub_nil _) ?_); simp only [List.getD_cons_zero, List.getD_cons_succ, fr_getD_cons, fr_getD_nil, Nat.reduceEqDiff, Nat.reduceLT, ↓reduceIte]; first | trivial | exact ⟨rfl, by trivial⟩ | (simp; done) | (simp; omega))
        · rw [if_neg hm] at hA
          clear c8 k8
          repeat' (first
    | (with_reducible apply W_seq_k; intro nx hnx)
    | with_reducible apply W_block
    | with_reducible apply W_scope
    | (with_reducible refine W_prune 4511 ?_; simp only [prune_cons, prune_nil, Nat.reducePow, Nat.reduceDiv, Nat.reduceMod, Nat.reduceBEq, cond_true, cond_false]; with_reducible apply W_region_l)
    | (with_reducible refine W_prune 4511 ?_; simp only [prune_cons, prune_nil, Nat.reducePow, Nat.reduceDiv, Nat.reduceMod, Nat.reduceBEq, cond_true, cond_false]; with_reducible refine W_region_draw (id := 4) 1 (.op 0 true (.op 1 true (.op 2 true (.op 3 true (.op 4 true (.done)))))) (by kernel_rfl) ?_)
    | (with_reducible refine W_prune 4511 ?_; simp only [prune_cons, prune_nil, Nat.reducePow, Nat.reduceDiv, Nat.reduceMod, Nat.reduceBEq, cond_true, cond_false]; with_reducible refine W_region_draw (id := 9) 1 (.op 0 true (.op 1 true (.op 2 true (.op 3 true (.op 4 true (.op 5 true (.op 6 true (.op 7 true (.op 8 true (.done)))))))))) (by kernel_rfl) ?_)
    | (with_reducible refine W_prune 4511 ?_; simp only [prune_cons, prune_nil, Nat.reducePow, Nat.reduceDiv, Nat.reduceMod, Nat.reduceBEq, cond_true, cond_false]; with_reducible refine W_region_draw (id := 12) 1 (.op 0 true (.op 1 true (.op 2 true (.op 3 true (.op 4 true (.op 5 true (.op 6 true (.op 7 true (.op 8 true (.op 9 true (.done))))))))))) (by kernel_rfl) ?_)
    | (with_reducible refine W_prune 4511 ?_; simp only [prune_cons, prune_nil, Nat.reducePow, Nat.reduceDiv, Nat.reduceMod, Nat.reduceBEq, cond_true, cond_false]; with_reducible refine W_region_draw (id := 17) 1 (.op 0 true (.op 1 true (.op 4 true (.op 5 true (.op 2 true (.op 3 true (.op 6 true (.op 7 true (.op 8 true (.done)))))))))) (by kernel_rfl) ?_)
    | ((first | (with_reducible apply WL_op; intro nx hnx) | with_reducible refine Ev_out ?_ | (with_reducible apply popsD_op; intro nx hnx) | (with_reducible refine popsD_alt ?_ ?_; intro nx hnx) | (with_reducible refine pfresh_k hnm fun nm hnm => ?_; (try simp only [List.forall_mem_cons, List.not_mem_nil, false_implies, implies_true, and_true, true_and, ne_eq] at hnm))); try (simp (maxSteps := 2000000) (disch := omega) only [evb, ↓popG_eq, ↓pop.eq_1, ↓List.getElem?_map, ↓List.getElem?_cons_zero, ↓List.getElem?_cons_succ, pbuiltin, opnd, constPV, PState.put, layFrom, List.set, pnck, seqK, blockK, scopeK, pbin, pun, ppick, plen, pldop, pload, pfaddr, piaddr, pindex, pfield, pslice, pbound, pconv, pelems, pextract, pmm, parr, pbuild, pfill, PV.mem?, PV.one, PV.cells, pageq, peqs, peq1, palloc, pbox, pbuildS, pmakes, pstore, pappend, pcopy, pbytes, pmark, psrc, vcells, Value.oneCell', look, upd, del, names, Nat.reduceAdd, Nat.reduceMul, Nat.reduceSub, Nat.reduceLeDiff, Nat.reduceEqDiff, ↓reduceIte, ne_eq, reduceCtorEq, forall_const, times, Value.cells, exists_and_left, exists_eq_left', eq_self, Nat.reduceLT, Int.reduceLT, Int.reduceLE, Int.reduceToNat, Int.reduceAdd, Int.reduceSub, Int.reduceNeg, hnm, Tryd.tf0, Tryd.tf1, Tryd.tf2, Tryd.tf3, Tryd.tf4, Tryd.tf9, Tryd.tf22, Tryd.tf23, Tryd.tf25, Tryd.tf30, Tryd.teq30, Tryd.teq57, Tryd.teq58, Tryd.teq79, Tryd.teq80, Tryd.teq86, Tryd.teq88, Tryd.teq96, Tryd.teq98, Tryd.call12, Tryd.call14, Tryd.call23, Tryd.call36, Tryd.call43, Tryd.call48, Tryd.call49, Tryd.call50, htop]); repeat (refine And.intro (by omega) ?_))
    | ((first | with_reducible apply WL_nil | with_reducible apply W_label | with_reducible apply W_skip | with_reducible apply W_exit | with_reducible apply W_ret | with_reducible apply popsD_done); try simp only [seqK, blockK, scopeK, ↓reduceIte, Nat.reduceEqDiff])
    | with_reducible exact popsD_stop
    | (with_reducible apply W_cond_k; intro _ _ ea eb; (simp only [condK, not_true_eq_false, not_false_eq_true, opnd, constPV, List.getD_cons_zero, List.getD_cons_succ, fr_getD_cons, fr_getD_nil, Nat.reduceEqDiff, Nat.reduceLT, ↓reduceIte, hcb, reduceCtorEq, false_implies, true_implies, forall_const, bne_iff_ne, beq_iff_eq, ne_eq]); subst ea eb; first | (refine ⟨fun hc => ?_, fun hc => ?_⟩ <;> first | (exfalso; omega) | (exfalso; exact hc trivial) | skip) | skip)
    | (with_reducible apply hnx; clear hnx nx)
    | (with_reducible refine And.intro (by omega) ?_)
    | (with_reducible refine And.intro ?_ ?_)
    | (with_reducible refine pcall_k (c2) ?_; rintro _ _ ⟨rfl, rfl⟩ -; refine Ev_in ?_)
    | (clear hnx nx; with_reducible apply hnx; clear hnx nx)
    | (clear hnx nx; clear hnx nx; with_reducible apply hnx; clear hnx nx)
    | (clear hnx nx; clear hnx nx; clear hnx nx; with_reducible apply hnx; clear hnx nx))
          all_goals first
            | (exfalso
               omega)
            | (refine hlp _ (top + 1 - (z + 1)).toNat _ (by omega) ?_ ⟨z + 1, by omega, by omega, rfl, hA, rfl⟩
               refine Wk_fr (by simp only [List.forall_mem_cons, List.not_mem_nil, false_implies, implies_true, and_true, true_and, and_self, fr_getD_cons, fr_getD_nil, Nat.reduceEqDiff, Nat.reduceLT, ↓reduceIte, Int.natCast_add, Int.cast_ofNat_Int, Int.natCast_zero]) ?_
               exact ⟨by simp, by simp [names]⟩)
      · have e1 : (top + 1 - z).toNat = 0 := by omega
        rw [e1, aboutF] at hA
        rw [hA] at hfin
        simp only at hfin
        have o7 := lenM_pos y o3 o4
        have c2 := day_c G hG y m 1 (by omega) (by omega) (by omega)
        have hok : okD y m 1 := by unfold okD; omega
        have l4 := dayN_lo hok
        have l5 := dayN_hi hok
        have l6 := startI_le (y := y) (by omega) (by omega)
        have l7 := startI_le (y := y + 1) (by omega) (by omega)
        rw [dayF, if_pos hok] at c2
        have c4 := len_c G hG y m (by omega) (by omega) (by omega) (by omega)
        have c5 := pad2_c G m (by omega) (by omega)
        have c8 := pad2_c G d (by omega) (by omega)
        have k4 := pad4_len y
        have k3 := pad2_len m
        have k2 := pad2_len d
        clear he o6 hA hlp hok
        generalize dayN y m 1 = D1 at *
        generalize lenM y m = L at *
        generalize pad4 y = W4 at *
        generalize pad2 m = W2 at *
        generalize pad2 d = W3 at *
        repeat' (first
    | (with_reducible apply W_seq_k; intro nx hnx)
    | with_reducible apply W_block
    | with_reducible apply W_scope
    | (with_reducible refine W_prune 4511 ?_; simp only [prune_cons, prune_nil, Nat.reducePow, Nat.reduceDiv, Nat.reduceMod, Nat.reduceBEq, cond_true, cond_false]; with_reducible apply W_region_l)
    | (with_reducible refine W_prune 4511 ?_; simp only [prune_cons, prune_nil, Nat.reducePow, Nat.reduceDiv, Nat.reduceMod, Nat.reduceBEq, cond_true, cond_false]; with_reducible refine W_region_draw (id := 4) 1 (.op 0 true (.op 1 true (.op 2 true (.op 3 true (.op 4 true (.done)))))) (by kernel_rfl) ?_)
    | (with_reducible refine W_prune 4511 ?_; simp only [prune_cons, prune_nil, Nat.reducePow, Nat.reduceDiv, Nat.reduceMod, Nat.reduceBEq, cond_true, cond_false]; with_reducible refine W_region_draw (id := 9) 1 (.op 0 true (.op 1 true (.op 2 true (.op 3 true (.op 4 true (.op 5 true (.op 6 true (.op 7 true (.op 8 true (.done)))))))))) (by kernel_rfl) ?_)
    | (with_reducible refine W_prune 4511 ?_; simp only [prune_cons, prune_nil, Nat.reducePow, Nat.reduceDiv, Nat.reduceMod, Nat.reduceBEq, cond_true, cond_false]; with_reducible refine W_region_draw (id := 12) 1 (.op 0 true (.op 1 true (.op 2 true (.op 3 true (.op 4 true (.op 5 true (.op 6 true (.op 7 true (.op 8 true (.op 9 true (.done))))))))))) (by kernel_rfl) ?_)
    | (with_reducible refine W_prune 4511 ?_; simp only [prune_cons, prune_nil, Nat.reducePow, Nat.reduceDiv, Nat.reduceMod, Nat.reduceBEq, cond_true, cond_false]; with_reducible refine W_region_draw (id := 17) 1 (.op 0 true (.op 1 true (.op 4 true (.op 5 true (.op 2 true (.op 3 true (.op 6 true (.op 7 true (.op 8 true (.done)))))))))) (by kernel_rfl) ?_)
    | ((first | (with_reducible apply WL_op; intro nx hnx) | with_reducible refine Ev_out ?_ | (with_reducible apply popsD_op; intro nx hnx) | (with_reducible refine popsD_alt ?_ ?_; intro nx hnx) | (with_reducible refine pfresh_k hnm fun nm hnm => ?_; (try simp only [List.forall_mem_cons, List.not_mem_nil, false_implies, implies_true, and_true, true_and, ne_eq] at hnm))); try (simp (maxSteps := 2000000) (disch := omega) only [evb, ↓popG_eq, ↓pop.eq_1, ↓List.getElem?_map, ↓List.getElem?_cons_zero, ↓List.getElem?_cons_succ, pbuiltin, opnd, constPV, PState.put, layFrom, List.set, pnck, seqK, blockK, scopeK, pbin, pun, ppick, plen, pldop, pload, pfaddr, piaddr, pindex, pfield, pslice, pbound, pconv, pelems, pextract, pmm, parr, pbuild, pfill, PV.mem?, PV.one, PV.cells, pageq, peqs, peq1, palloc, pbox, pbuildS, pmakes, pstore, pappend, pcopy, pbytes, pmark, psrc, vcells, Value.oneCell', look, upd, del, names, Nat.reduceAdd, Nat.reduceMul, Nat.reduceSub, Nat.reduceLeDiff, Nat.reduceEqDiff, ↓reduceIte, ne_eq, reduceCtorEq, forall_const, times, Value.cells, exists_and_left, exists_eq_left', eq_self, Nat.reduceLT, Int.reduceLT, Int.reduceLE, Int.reduceToNat, Int.reduceAdd, Int.reduceSub, Int.reduceNeg, hnm, Tryd.tf0, Tryd.tf1, Tryd.tf2, Tryd.tf3, Tryd.tf4, Tryd.tf9, Tryd.tf22, Tryd.tf23, Tryd.tf25, Tryd.tf30, Tryd.teq30, Tryd.teq57, Tryd.teq58, Tryd.teq79, Tryd.teq80, Tryd.teq86, Tryd.teq88, Tryd.teq96, Tryd.teq98, Tryd.call12, Tryd.call14, Tryd.call23, Tryd.call36, Tryd.call43, Tryd.call48, Tryd.call49, Tryd.call50, htop, k4, k3, k2, List.append_assoc, List.cons_append, List.nil_append]); repeat (refine And.intro (by omega) ?_))
    | ((first | with_reducible apply WL_nil | with_reducible apply W_label | with_reducible apply W_skip | with_reducible apply W_exit | with_reducible apply W_ret | with_reducible apply popsD_done); try simp only [seqK, blockK, scopeK, ↓reduceIte, Nat.reduceEqDiff])
    | with_reducible exact popsD_stop
    | (with_reducible apply W_cond_k; intro _ _ ea eb; (simp only [condK, not_true_eq_false, not_false_eq_true, opnd, constPV, List.getD_cons_zero, List.getD_cons_succ, fr_getD_cons, fr_getD_nil, Nat.reduceEqDiff, Nat.reduceLT, ↓reduceIte, hcb, reduceCtorEq, false_implies, true_implies, forall_const, bne_iff_ne, beq_iff_eq, ne_eq]); subst ea eb; first | (refine ⟨fun hc => ?_, fun hc => ?_⟩ <;> first | (exfalso; omega) | (exfalso; exact hc trivial) | skip) | skip)
    | (with_reducible apply hnx; clear hnx nx)
    | (with_reducible refine And.intro (by omega) ?_)
    | (with_reducible refine And.intro ?_ ?_)
    | (with_reducible refine pcall_k (c1) ?_; rintro _ _ ⟨rfl, rfl⟩ -; refine Ev_in ?_)
    | (with_reducible refine pcall_k (c2) ?_; rintro _ _ ⟨rfl, rfl⟩ -; refine Ev_in ?_)
    | (with_reducible refine pcall_k (c3) ?_; rintro _ _ ⟨rfl, rfl⟩ -; refine Ev_in ?_)
    | (with_reducible refine pcall_k (c4) ?_; rintro _ _ ⟨rfl, rfl⟩ -; refine Ev_in ?_)
    | (with_reducible refine pcall_k (c5) ?_; rintro _ _ ⟨rfl, rfl⟩ -; refine Ev_in ?_)
    | (with_reducible refine pcall_k (c6) ?_; rintro _ _ ⟨rfl, rfl⟩ -; refine Ev_in ?_)
    | (with_reducible refine pcall_k (c7) ?_; rintro _ _ ⟨rfl, rfl⟩ -; refine Ev_in ?_)
    | (with_reducible refine pcall_k (c8) ?_; rintro _ _ ⟨rfl, rfl⟩ -; refine Ev_in ?_)
    | (clear hnx nx; with_reducible apply hnx; clear hnx nx)
    | (clear hnx nx; clear hnx nx; with_reducible apply hnx; clear hnx nx)
    | (clear hnx nx; clear hnx nx; clear hnx nx; with_reducible apply hnx; clear hnx nx))
        all_goals first
          | (exfalso
             omega)
          | (first
               | rw [if_pos (by omega)] at hrest
               | rw [if_neg (by omega), if_pos (by omega)] at hrest
               | rw [if_neg (by omega), if_neg (by omega)] at hrest
             rw [hrest] at hfin
             (refine hfin _ _ (Fin_ret1 rfl (Sub_nil _) ?_); simp only [List.getD_cons_zero, List.getD_cons_succ, fr_getD_cons, fr_getD_nil, Nat.reduceEqDiff, Nat.reduceLT, ↓reduceIte]; first | trivial | exact ⟨rfl, by trivial⟩ | (simp; done) | (simp; omega)))
end Go.PM

namespace Go.PM
open Go.Proofs
attribute [local irreducible] W PCalls pcall pcallI WL
set_option maxRecDepth 1000000 in
theorem ex1 : dayF 2000 2 29 = (730179, 0) := by decide +kernel
set_option maxRecDepth 1000000 in
theorem ex2 : dayF 2800 12 31 = (1022679, 0) := by decide +kernel
set_option maxRecDepth 1000000 in
theorem ex3 : dayF 1900 2 29 = (0, 5) := by decide +kernel
set_option maxRecDepth 1000000 in
theorem ex4 : parseP [99, 49, 55, 53, 51] = (638079, 641731, 0) := by decide +kernel
set_option maxRecDepth 1000000 in
theorem ex5 : parseP [49, 55, 53, 51, 45, 48, 52, 47, 49, 55, 53, 51, 45, 48, 52, 45, 49, 49] = (639996, 640006, 0) := by decide +kernel
set_option maxRecDepth 1000000 in
theorem ex6 : parseP [49, 55, 53, 51, 45, 52] = (0, 0, 2) := by decide +kernel
set_option maxRecDepth 1000000 in
theorem ex7 : parseP [49, 55, 53, 52, 47, 49, 55, 53, 51] = (0, 0, 5) := by decide +kernel
set_option maxRecDepth 1000000 in
theorem ex8 : firT [(5, 9), (7, 8)] = .tuple [spn 5 8, pbool true] := by
  have h1 : allS [(5, 9), (7, 8)] = true := by decide +kernel
  rw [firT_good _ (by simp) h1]
  rfl
set_option maxRecDepth 1000000 in
theorem ex9 : printP 638079 641731 = [99, 49, 55, 53, 51] := by decide +kernel
set_option maxRecDepth 1000000 in
theorem ex10 : printP 639996 640006 = [49, 55, 53, 51, 45, 48, 52, 47, 49, 55, 53, 51, 45, 48, 52, 45, 49, 49] := by decide +kernel
set_option maxRecDepth 100000 in
set_option maxHeartbeats 8000000 in
theorem lives_c (G : Globs) (hG : GL G) : PCalls Tryd.prog G 16 [] [] (fun res H => res = pbool true ∧ H = []) := by
  have c1 := day_c G hG 2000 2 29 (by decide) (by decide) (by decide)
  rw [ex1] at c1
  have c2 := day_c G hG 2800 12 31 (by decide) (by decide) (by decide)
  rw [ex2] at c2
  have c3 := day_c G hG 1900 2 29 (by decide) (by decide) (by decide)
  rw [ex3] at c3
  have c4 : PCalls Tryd.prog G 17 [.val (.string ⟨#[99, 49, 55, 53, 51]⟩)] [] (fun res H => res = resP (638079, 641731, 0) ∧ H = []) := by
    have := parse_c G hG [99, 49, 55, 53, 51] (by decide)
    rw [ex4] at this
    exact this
  have c5 : PCalls Tryd.prog G 17 [.val (.string ⟨#[49, 55, 53, 51, 45, 48, 52, 47, 49, 55, 53, 51, 45, 48, 52, 45, 49, 49]⟩)] [] (fun res H => res = resP (639996, 640006, 0) ∧ H = []) := by
    have := parse_c G hG [49, 55, 53, 51, 45, 48, 52, 47, 49, 55, 53, 51, 45, 48, 52, 45, 49, 49] (by decide)
    rw [ex5] at this
    exact this
  have c6 : PCalls Tryd.prog G 17 [.val (.string ⟨#[49, 55, 53, 51, 45, 52]⟩)] [] (fun res H => res = resP (0, 0, 2) ∧ H = []) := by
    have := parse_c G hG [49, 55, 53, 51, 45, 52] (by decide)
    rw [ex6] at this
    exact this
  have c7 : PCalls Tryd.prog G 17 [.val (.string ⟨#[49, 55, 53, 52, 47, 49, 55, 53, 51]⟩)] [] (fun res H => res = resP (0, 0, 5) ∧ H = []) := by
    have := parse_c G hG [49, 55, 53, 52, 47, 49, 55, 53, 51] (by decide)
    rw [ex7] at this
    exact this
  have c8 : PCalls Tryd.prog G 25 [.list 2 [spn 5 9, spn 7 8]] [] (fun res H => res = .tuple [spn 5 8, pbool true] ∧ H = []) := by
    have := first_c G [(5, 9), (7, 8)] (by decide)
    rw [ex8] at this
    exact this
  have c9 := print_c G hG 638079 641731
  rw [ex9] at c9
  have c10 := print_c G hG 639996 640006
  rw [ex10] at c10
  (refine PCalls_f Tryd.func16 rfl Tryd.ntmps16 Tryd.results16 (by simp) fun fin hfin => ?_; have hnm : True := trivial; simp (maxSteps := 2000000) (disch := omega) only [evb, ↓popG_eq, ↓pop.eq_1, ↓List.getElem?_map, ↓List.getElem?_cons_zero, ↓List.getElem?_cons_succ, pbuiltin, opnd, constPV, PState.put, layFrom, List.set, pnck, seqK, blockK, scopeK, pbin, pun, ppick, plen, pldop, pload, pfaddr, piaddr, pindex, pfield, pslice, pbound, pconv, pelems, pextract, pmm, parr, pbuild, pfill, PV.mem?, PV.one, PV.cells, pageq, peqs, peq1, palloc, pbox, pbuildS, pmakes, pstore, pappend, pcopy, pbytes, pmark, psrc, vcells, Value.oneCell', look, upd, del, names, Nat.reduceAdd, Nat.reduceMul, Nat.reduceSub, Nat.reduceLeDiff, Nat.reduceEqDiff, ↓reduceIte, ne_eq, reduceCtorEq, forall_const, times, Value.cells, exists_and_left, exists_eq_left', eq_self, Nat.reduceLT, Int.reduceLT, Int.reduceLE, Int.reduceToNat, Int.reduceAdd, Int.reduceSub, Int.reduceNeg, hnm, Tryd.tf0, Tryd.tf1, Tryd.tf2, Tryd.tf3, Tryd.tf4, Tryd.tf9, Tryd.tf22, Tryd.tf23, Tryd.tf30, Tryd.teq30, Tryd.tf31, Tryd.tf42, Tryd.tf44, Tryd.teq57, Tryd.teq58, Tryd.teq79, Tryd.teq80, Tryd.teq86, Tryd.teq88, Tryd.teq96, Tryd.teq98, Tryd.call12, Tryd.call17, Tryd.call20, Tryd.call25])
  repeat' (first
    | (with_reducible apply W_seq_k; intro nx hnx)
    | with_reducible apply W_block
    | with_reducible apply W_scope
    | (with_reducible refine W_prune 120799 ?_; simp only [prune_cons, prune_nil, Nat.reducePow, Nat.reduceDiv, Nat.reduceMod, Nat.reduceBEq, cond_true, cond_false]; with_reducible apply W_region_l)
    | (with_reducible refine WL_born (by simp) rfl (by simp) ?_; simp only [elemsOf, nl, List.map_cons, List.map_nil, Nat.reduceEqDiff, ↓reduceIte, List.take_succ_cons, List.take_zero, List.range_succ, List.range_zero, List.nil_append, List.cons_append, List.map_append, List.drop_succ_cons, List.drop_zero, Nat.reduceMul, Nat.zero_mul, Nat.one_mul, Nat.reduceAdd])
    | (with_reducible refine WL_bornH (by simp) (by simp) ?_ ?_ ?_; (· simp [frz, frz1, hnm]); (· simp [frz1, hnm, PV.one, Value.oneCell']); simp only [elemsOf, nl, List.map_cons, List.map_nil, Nat.reduceEqDiff, ↓reduceIte, List.take_succ_cons, List.take_zero, List.range_succ, List.range_zero, List.nil_append, List.cons_append, List.map_append, List.drop_succ_cons, List.drop_zero, Nat.reduceMul, Nat.zero_mul, Nat.one_mul, Nat.reduceAdd])
    | ((first | (with_reducible apply WL_op; intro nx hnx) | with_reducible refine Ev_out ?_ | (with_reducible refine pfresh_k hnm fun nm hnm => ?_; (try simp only [List.forall_mem_cons, List.not_mem_nil, false_implies, implies_true, and_true, true_and, ne_eq] at hnm))); try (simp (maxSteps := 2000000) (disch := omega) only [evb, ↓popG_eq, ↓pop.eq_1, ↓List.getElem?_map, ↓List.getElem?_cons_zero, ↓List.getElem?_cons_succ, pbuiltin, opnd, constPV, PState.put, layFrom, List.set, pnck, seqK, blockK, scopeK, pbin, pun, ppick, plen, pldop, pload, pfaddr, piaddr, pindex, pfield, pslice, pbound, pconv, pelems, pextract, pmm, parr, pbuild, pfill, PV.mem?, PV.one, PV.cells, pageq, peqs, peq1, palloc, pbox, pbuildS, pmakes, pstore, pappend, pcopy, pbytes, pmark, psrc, vcells, Value.oneCell', look, upd, del, names, Nat.reduceAdd, Nat.reduceMul, Nat.reduceSub, Nat.reduceLeDiff, Nat.reduceEqDiff, ↓reduceIte, ne_eq, reduceCtorEq, forall_const, times, Value.cells, exists_and_left, exists_eq_left', eq_self, Nat.reduceLT, Int.reduceLT, Int.reduceLE, Int.reduceToNat, Int.reduceAdd, Int.reduceSub, Int.reduceNeg, hnm, Tryd.tf0, Tryd.tf1, Tryd.tf2, Tryd.tf3, Tryd.tf4, Tryd.tf9, Tryd.tf22, Tryd.tf23, Tryd.tf30, Tryd.teq30, Tryd.tf31, Tryd.tf42, Tryd.tf44, Tryd.teq57, Tryd.teq58, Tryd.teq79, Tryd.teq80, Tryd.teq86, Tryd.teq88, Tryd.teq96, Tryd.teq98, Tryd.call12, Tryd.call17, Tryd.call20, Tryd.call25]); repeat (refine And.intro (by omega) ?_))
    | ((first | with_reducible apply WL_nil | with_reducible apply W_label | with_reducible apply W_skip | with_reducible apply W_exit | with_reducible apply W_ret); try simp only [seqK, blockK, scopeK, ↓reduceIte, Nat.reduceEqDiff])
    | (with_reducible apply pguard_intro <;> (intro hc; (try simp only [hcb, reduceCtorEq, false_implies, true_implies, forall_const, bne_iff_ne, beq_iff_eq, ne_eq] at hc); first | (exfalso; omega) | (exfalso; exact hc trivial) | refine Ev_in ?_))
    | (with_reducible apply W_cond_k; intro _ _ ea eb; (simp only [condK, not_true_eq_false, not_false_eq_true, opnd, constPV, List.getD_cons_zero, List.getD_cons_succ, fr_getD_cons, fr_getD_nil, Nat.reduceEqDiff, Nat.reduceLT, ↓reduceIte, hcb, reduceCtorEq, false_implies, true_implies, forall_const, bne_iff_ne, beq_iff_eq, ne_eq]); subst ea eb; first | (refine ⟨fun hc => ?_, fun hc => ?_⟩ <;> first | (exfalso; omega) | (exfalso; exact hc trivial) | skip) | skip)
    | (with_reducible apply hnx; clear hnx nx)
    | (with_reducible refine And.intro (by omega) ?_)
    | (with_reducible refine And.intro ?_ ?_)
    | (with_reducible refine pcall_k (c1) ?_; rintro _ _ ⟨rfl, rfl⟩ -; refine Ev_in ?_)
    | (with_reducible refine pcall_k (c2) ?_; rintro _ _ ⟨rfl, rfl⟩ -; refine Ev_in ?_)
    | (with_reducible refine pcall_k (c3) ?_; rintro _ _ ⟨rfl, rfl⟩ -; refine Ev_in ?_)
    | (with_reducible refine pcall_k (c4) ?_; rintro _ _ ⟨rfl, rfl⟩ -; refine Ev_in ?_)
    | (with_reducible refine pcall_k (c5) ?_; rintro _ _ ⟨rfl, rfl⟩ -; refine Ev_in ?_)
    | (with_reducible refine pcall_k (c6) ?_; rintro _ _ ⟨rfl, rfl⟩ -; refine Ev_in ?_)
    | (with_reducible refine pcall_k (c7) ?_; rintro _ _ ⟨rfl, rfl⟩ -; refine Ev_in ?_)
    | (with_reducible refine pcall_k (c8) ?_; rintro _ _ ⟨rfl, rfl⟩ -; refine Ev_in ?_)
    | (with_reducible refine pcall_k (c9) ?_; rintro _ _ ⟨rfl, rfl⟩ -; refine Ev_in ?_)
    | (with_reducible refine pcall_k (c10) ?_; rintro _ _ ⟨rfl, rfl⟩ -; refine Ev_in ?_)
    | (clear hnx nx; with_reducible apply hnx; clear hnx nx)
    | (clear hnx nx; clear hnx nx; with_reducible apply hnx; clear hnx nx)
    | (clear hnx nx; clear hnx nx; clear hnx nx; with_reducible apply hnx; clear hnx nx))
  all_goals first
    | (intro h
       exact h.elim False.elim False.elim)
    | (refine hfin _ _ (Fin_ret1 rfl (Sub_nil _) ?_); simp only [List.getD_cons_zero, List.getD_cons_succ, fr_getD_cons, fr_getD_nil, Nat.reduceEqDiff, Nat.reduceLT, ↓reduceIte]; first | trivial | exact ⟨rfl, by trivial⟩ | (simp; done) | (simp; omega))
end Go.PM

namespace Go.PM
open Go.Proofs
attribute [local irreducible] W PCalls pcall pcallI WL
/-- a number from 0 to below another -/
def arF (n most : Int) : Int := (if n < 0 then -(n + 1) else n) % most
theorem arF_bound (n : Int) {most : Int} (h : 0 < most) : 0 ≤ arF n most ∧ arF n most < most := ⟨Int.emod_nonneg _ (by omega), Int.emod_lt_of_pos _ h⟩
set_option maxRecDepth 100000 in
set_option maxHeartbeats 8000000 in
theorem around_c (G : Globs) (n most : Int) (h : 0 < most) (hn : -9223372036854775808 ≤ n ∧ n ≤ 9223372036854775807) (hm : most ≤ 9223372036854775807) : PCalls Tryd.prog G 22 [pint .i64 n, pint .i64 most] [] (fun res H => res = pint .i64 (arF n most) ∧ H = []) := by
  have hb := arF_bound n h
  unfold arF at hb ⊢
  have t1 : (0 - (n + 1)).tmod most = if n < 0 then (-(n + 1)) % most else (0 - (n + 1)).tmod most := by
    split
    · rw [show 0 - (n + 1) = -(n + 1) by omega]
      exact Int.tmod_eq_emod_of_nonneg (by omega)
    · rfl
  have t2 : n.tmod most = if n < 0 then n.tmod most else n % most := by
    split
    · rfl
    · exact Int.tmod_eq_emod_of_nonneg (by omega)
  by_cases h0 : n < 0
  · rw [if_pos h0] at t1 hb ⊢
    generalize (-(n + 1)) % most = r at *
    (refine PCalls_f Tryd.func22 rfl Tryd.ntmps22 Tryd.results22 (by simp) fun fin hfin => ?_; have hnm : True := trivial; simp (maxSteps := 2000000) (disch := omega) only [evb, ↓popG_eq, ↓pop.eq_1, ↓List.getElem?_map, ↓List.getElem?_cons_zero, ↓List.getElem?_cons_succ, pbuiltin, opnd, constPV, PState.put, layFrom, List.set, pnck, seqK, blockK, scopeK, pbin, pun, ppick, plen, pldop, pload, pfaddr, piaddr, pindex, pfield, pslice, pbound, pconv, pelems, pextract, pmm, parr, pbuild, pfill, PV.mem?, PV.one, PV.cells, pageq, peqs, peq1, palloc, pbox, pbuildS, pmakes, pstore, pappend, pcopy, pbytes, pmark, psrc, vcells, Value.oneCell', look, upd, del, names, Nat.reduceAdd, Nat.reduceMul, Nat.reduceSub, Nat.reduceLeDiff, Nat.reduceEqDiff, ↓reduceIte, ne_eq, reduceCtorEq, forall_const, times, Value.cells, exists_and_left, exists_eq_left', eq_self, Nat.reduceLT, Int.reduceLT, Int.reduceLE, Int.reduceToNat, Int.reduceAdd, Int.reduceSub, Int.reduceNeg, hnm, Tryd.tf3, Tryd.tf4, Tryd.teq30, Tryd.teq57, Tryd.teq58, Tryd.teq79, Tryd.teq80, Tryd.teq86, Tryd.teq88, Tryd.teq96, Tryd.teq98])
    repeat' (first
    | (with_reducible apply W_seq_k; intro nx hnx)
    | with_reducible apply W_block
    | with_reducible apply W_scope
    | (with_reducible refine W_prune 19 ?_; simp only [prune_cons, prune_nil, Nat.reducePow, Nat.reduceDiv, Nat.reduceMod, Nat.reduceBEq, cond_true, cond_false]; with_reducible apply W_region_l)
    | ((first | (with_reducible apply WL_op; intro nx hnx) | with_reducible refine Ev_out ?_); try (simp (maxSteps := 2000000) (disch := omega) only [evb, ↓popG_eq, ↓pop.eq_1, ↓List.getElem?_map, ↓List.getElem?_cons_zero, ↓List.getElem?_cons_succ, pbuiltin, opnd, constPV, PState.put, layFrom, List.set, pnck, seqK, blockK, scopeK, pbin, pun, ppick, plen, pldop, pload, pfaddr, piaddr, pindex, pfield, pslice, pbound, pconv, pelems, pextract, pmm, parr, pbuild, pfill, PV.mem?, PV.one, PV.cells, pageq, peqs, peq1, palloc, pbox, pbuildS, pmakes, pstore, pappend, pcopy, pbytes, pmark, psrc, vcells, Value.oneCell', look, upd, del, names, Nat.reduceAdd, Nat.reduceMul, Nat.reduceSub, Nat.reduceLeDiff, Nat.reduceEqDiff, ↓reduceIte, ne_eq, reduceCtorEq, forall_const, times, Value.cells, exists_and_left, exists_eq_left', eq_self, Nat.reduceLT, Int.reduceLT, Int.reduceLE, Int.reduceToNat, Int.reduceAdd, Int.reduceSub, Int.reduceNeg, hnm, Tryd.tf3, Tryd.tf4, Tryd.teq30, Tryd.teq57, Tryd.teq58, Tryd.teq79, Tryd.teq80, Tryd.teq86, Tryd.teq88, Tryd.teq96, Tryd.teq98, t1]); repeat (refine And.intro (by omega) ?_))
    | ((first | with_reducible apply WL_nil | with_reducible apply W_label | with_reducible apply W_skip | with_reducible apply W_exit | with_reducible apply W_ret); try simp only [seqK, blockK, scopeK, ↓reduceIte, Nat.reduceEqDiff])
    | (with_reducible apply W_cond_k; intro _ _ ea eb; (simp only [condK, not_true_eq_false, not_false_eq_true, opnd, constPV, List.getD_cons_zero, List.getD_cons_succ, fr_getD_cons, fr_getD_nil, Nat.reduceEqDiff, Nat.reduceLT, ↓reduceIte, hcb, reduceCtorEq, false_implies, true_implies, forall_const, bne_iff_ne, beq_iff_eq, ne_eq]); subst ea eb; first | (refine ⟨fun hc => ?_, fun hc => ?_⟩ <;> first | (exfalso; omega) | (exfalso; exact hc trivial) | skip) | skip)
    | (with_reducible apply hnx; clear hnx nx)
    | (with_reducible refine And.intro (by omega) ?_)
    | (with_reducible refine And.intro ?_ ?_)
    | (clear hnx nx; with_reducible apply hnx; clear hnx nx)
    | (clear hnx nx; clear hnx nx; with_reducible apply hnx; clear hnx nx)
    | (clear hnx nx; clear hnx nx; clear hnx nx; with_reducible apply hnx; clear hnx nx))
    all_goals first
      | (exfalso
         omega)
      | (refine hfin _ _ (Fin_ret1 rfl (Sub_nil _) ?_); simp only [List.getD_cons_zero, List.getD_cons_succ, fr_getD_cons, fr_getD_nil, Nat.reduceEqDiff, Nat.reduceLT, ↓reduceIte]; first | trivial | exact ⟨rfl, by trivial⟩ | (simp; done) | (simp; omega))
  · rw [if_neg h0] at t2 hb ⊢
    generalize n % most = r at *
    (refine PCalls_f Tryd.func22 rfl Tryd.ntmps22 Tryd.results22 (by simp) fun fin hfin => ?_; have hnm : True := trivial; simp (maxSteps := 2000000) (disch := omega) only [evb, ↓popG_eq, ↓pop.eq_1, ↓List.getElem?_map, ↓List.getElem?_cons_zero, ↓List.getElem?_cons_succ, pbuiltin, opnd, constPV, PState.put, layFrom, List.set, pnck, seqK, blockK, scopeK, pbin, pun, ppick, plen, pldop, pload, pfaddr, piaddr, pindex, pfield, pslice, pbound, pconv, pelems, pextract, pmm, parr, pbuild, pfill, PV.mem?, PV.one, PV.cells, pageq, peqs, peq1, palloc, pbox, pbuildS, pmakes, pstore, pappend, pcopy, pbytes, pmark, psrc, vcells, Value.oneCell', look, upd, del, names, Nat.reduceAdd, Nat.reduceMul, Nat.reduceSub, Nat.reduceLeDiff, Nat.reduceEqDiff, ↓reduceIte, ne_eq, reduceCtorEq, forall_const, times, Value.cells, exists_and_left, exists_eq_left', eq_self, Nat.reduceLT, Int.reduceLT, Int.reduceLE, Int.reduceToNat, Int.reduceAdd, Int.reduceSub, Int.reduceNeg, hnm, Tryd.tf3, Tryd.tf4, Tryd.teq30, Tryd.teq57, Tryd.teq58, Tryd.teq79, Tryd.teq80, Tryd.teq86, Tryd.teq88, Tryd.teq96, Tryd.teq98])
    repeat' (first
    | (with_reducible apply W_seq_k; intro nx hnx)
    | with_reducible apply W_block
    | with_reducible apply W_scope
    | (with_reducible refine W_prune 19 ?_; simp only [prune_cons, prune_nil, Nat.reducePow, Nat.reduceDiv, Nat.reduceMod, Nat.reduceBEq, cond_true, cond_false]; with_reducible apply W_region_l)
    | ((first | (with_reducible apply WL_op; intro nx hnx) | with_reducible refine Ev_out ?_); try (simp (maxSteps := 2000000) (disch := omega) only [evb, ↓popG_eq, ↓pop.eq_1, ↓List.getElem?_map, ↓List.getElem?_cons_zero, ↓List.getElem?_cons_succ, pbuiltin, opnd, constPV, PState.put, layFrom, List.set, pnck, seqK, blockK, scopeK, pbin, pun, ppick, plen, pldop, pload, pfaddr, piaddr, pindex, pfield, pslice, pbound, pconv, pelems, pextract, pmm, parr, pbuild, pfill, PV.mem?, PV.one, PV.cells, pageq, peqs, peq1, palloc, pbox, pbuildS, pmakes, pstore, pappend, pcopy, pbytes, pmark, psrc, vcells, Value.oneCell', look, upd, del, names, Nat.reduceAdd, Nat.reduceMul, Nat.reduceSub, Nat.reduceLeDiff, Nat.reduceEqDiff, ↓reduceIte, ne_eq, reduceCtorEq, forall_const, times, Value.cells, exists_and_left, exists_eq_left', eq_self, Nat.reduceLT, Int.reduceLT, Int.reduceLE, Int.reduceToNat, Int.reduceAdd, Int.reduceSub, Int.reduceNeg, hnm, Tryd.tf3, Tryd.tf4, Tryd.teq30, Tryd.teq57, Tryd.teq58, Tryd.teq79, Tryd.teq80, Tryd.teq86, Tryd.teq88, Tryd.teq96, Tryd.teq98, t2]); repeat (refine And.intro (by omega) ?_))
    | ((first | with_reducible apply WL_nil | with_reducible apply W_label | with_reducible apply W_skip | with_reducible apply W_exit | with_reducible apply W_ret); try simp only [seqK, blockK, scopeK, ↓reduceIte, Nat.reduceEqDiff])
    | (with_reducible apply W_cond_k; intro _ _ ea eb; (simp only [condK, not_true_eq_false, not_false_eq_true, opnd, constPV, List.getD_cons_zero, List.getD_cons_succ, fr_getD_cons, fr_getD_nil, Nat.reduceEqDiff, Nat.reduceLT, ↓reduceIte, hcb, reduceCtorEq, false_implies, true_implies, forall_const, bne_iff_ne, beq_iff_eq, ne_eq]); subst ea eb; first | (refine ⟨fun hc => ?_, fun hc => ?_⟩ <;> first | (exfalso; omega) | (exfalso; exact hc trivial) | skip) | skip)
    | (with_reducible apply hnx; clear hnx nx)
    | (with_reducible refine And.intro (by omega) ?_)
    | (with_reducible refine And.intro ?_ ?_)
    | (clear hnx nx; with_reducible apply hnx; clear hnx nx)
    | (clear hnx nx; clear hnx nx; with_reducible apply hnx; clear hnx nx)
    | (clear hnx nx; clear hnx nx; clear hnx nx; with_reducible apply hnx; clear hnx nx))
    all_goals first
      | (exfalso
         omega)
      | (refine hfin _ _ (Fin_ret1 rfl (Sub_nil _) ?_); simp only [List.getD_cons_zero, List.getD_cons_succ, fr_getD_cons, fr_getD_nil, Nat.reduceEqDiff, Nat.reduceLT, ↓reduceIte]; first | trivial | exact ⟨rfl, by trivial⟩ | (simp; done) | (simp; omega))
theorem dayN_in {y m d : Int} (h : okD y m d) : 1 ≤ dayN y m d ∧ dayN y m d ≤ 1022679 := by
  have a := dayN_lo h
  have b := startI_mono h.1
  rw [show startI 1 = 1 by rfl] at b
  have a2 := dayN_hi h
  have b2 := startI_mono (y := y + 1) (z := 2801) (by have := h.2.1; omega)
  rw [show startI 2801 = 1022680 by rfl] at b2
  omega
end Go.PM

namespace Go.PM
open Go.Proofs
attribute [local irreducible] W PCalls pcall pcallI WL
theorem tdiv7 (b : Int) (h : -9223372036854775808 ≤ b ∧ b ≤ 9223372036854775807) : -9223372036854775808 ≤ b.tdiv 7 ∧ b.tdiv 7 ≤ 9223372036854775807 := by
  by_cases h0 : 0 ≤ b
  · rw [Int.tdiv_eq_ediv_of_nonneg h0]
    omega
  · obtain ⟨c, rfl⟩ : ∃ c, b = -c := ⟨-b, by omega⟩
    rw [Int.neg_tdiv, Int.tdiv_eq_ediv_of_nonneg (by omega)]
    omega
/-- a span made of two numbers -/
def madeF (a b : Int) : Int × Int :=
  if arF b 7 = 0 then (startI (dY (1 + arF a 1022679)), startI (dY (1 + arF a 1022679) + 1) - 1)
  else if arF b 7 = 1 then (startI (max 1 (dY (1 + arF a 1022679) - 5)), startI (min 2800 (dY (1 + arF a 1022679) + 4) + 1) - 1)
  else if arF b 7 = 2 then (dayN (dY (1 + arF a 1022679)) (dM (1 + arF a 1022679)) 1, dayN (dY (1 + arF a 1022679)) (dM (1 + arF a 1022679)) 1 + lenM (dY (1 + arF a 1022679)) (dM (1 + arF a 1022679)) - 1)
  else if arF b 7 = 3 then (1 + arF a 1022679, 1 + arF a 1022679)
  else if arF b 7 = 4 then (startI (dY (1 + arF a 1022679)), startI (min 2800 (dY (1 + arF a 1022679) + arF (b.tdiv 7) 30) + 1) - 1)
  else (1 + arF a 1022679, min 1022679 (1 + arF a 1022679 + arF (b.tdiv 7) 2000))
theorem span_years {y z : Int} (h1 : 1 ≤ y) (h2 : y ≤ z) (h3 : z ≤ 2800) : okS (startI y) (startI (z + 1) - 1) = true := by
  rw [okS_iff]
  have a := startI_mono (y := y) (z := z) h2
  have b := startI_mono (y := 1) (z := y) h1
  have c := startI_mono (y := z + 1) (z := 2801) (by omega)
  rw [show startI 1 = 1 by rfl] at b
  rw [show startI 2801 = 1022680 by rfl] at c
  rw [startI_succ] at c ⊢
  have d := yearL_two z
  omega
theorem made_ok (a b : Int) : okS (madeF a b).1 (madeF a b).2 = true := by
  have hb := arF_bound a (most := 1022679) (by omega)
  have hq := arF_bound (b.tdiv 7) (most := 30) (by omega)
  have hq2 := arF_bound (b.tdiv 7) (most := 2000) (by omega)
  obtain ⟨⟨h1, h2, h3, h4, h5, h6⟩, he⟩ := date_ok (n := 1 + arF a 1022679) (by omega) (by omega)
  unfold madeF
  have hk1 : 1 ≤ 1 + arF a 1022679 ∧ 1 + arF a 1022679 ≤ 1022679 := by omega
  generalize 1 + arF a 1022679 = k at *
  generalize dY k = y at *
  generalize dM k = m at *
  split
  · exact span_years h1 (Int.le_refl _) h2
  split
  · exact span_years (by omega) (by omega) (by omega)
  split
  · have l1 := lenM_pos y h3 h4
    have o1 : okD y m 1 := by unfold okD; omega
    have o2 : okD y m (lenM y m) := by unfold okD; omega
    have i1 := dayN_in o1
    have i2 := dayN_in o2
    rw [okS_iff]
    have e2 : dayN y m (lenM y m) = dayN y m 1 + lenM y m - 1 := by unfold dayN; omega
    rw [e2] at i2
    show 1 ≤ dayN y m 1 ∧ dayN y m 1 ≤ dayN y m 1 + lenM y m - 1 ∧ dayN y m 1 + lenM y m - 1 ≤ 1022679
    omega
  split
  · rw [okS_iff]
    show 1 ≤ k ∧ k ≤ k ∧ k ≤ 1022679
    omega
  split
  · exact span_years (by omega) (by omega) (by omega)
  · rw [okS_iff]
    show 1 ≤ k ∧ k ≤ min 1022679 (k + arF (b.tdiv 7) 2000) ∧ min 1022679 (k + arF (b.tdiv 7) 2000) ≤ 1022679
    omega
set_option maxRecDepth 100000 in
set_option maxHeartbeats 8000000 in
theorem made_c (G : Globs) (a b : Int) (ha : -9223372036854775808 ≤ a ∧ a ≤ 9223372036854775807) (hb : -9223372036854775808 ≤ b ∧ b ≤ 9223372036854775807) :
    PCalls Tryd.prog G 19 [pint .i64 a, pint .i64 b] [] (fun res H => res = spv (madeF a b) ∧ H = []) := by
  have c1 := around_c G a 1022679 (by omega) ha (by omega)
  have hk := arF_bound a (most := 1022679) (by omega)
  have c2 := rdate_c G (1 + arF a 1022679)
  rw [dateT_in (by omega) (by omega)] at c2
  obtain ⟨⟨h1, h2, h3, h4, h5, h6⟩, he⟩ := date_ok (n := 1 + arF a 1022679) (by omega) (by omega)
  have c3 := around_c G b 7 (by omega) hb (by omega)
  have h7 := arF_bound b (most := 7) (by omega)
  have q7 := tdiv7 b hb
  have c4 := around_c G (b.tdiv 7) 30 (by omega) q7 (by omega)
  have q8 := arF_bound (b.tdiv 7) (most := 30) (by omega)
  have c5 := around_c G (b.tdiv 7) 2000 (by omega) q7 (by omega)
  have q9 := arF_bound (b.tdiv 7) (most := 2000) (by omega)
  unfold madeF
  generalize arF (b.tdiv 7) 30 = u at *
  generalize arF (b.tdiv 7) 2000 = v at *
  obtain ⟨t, ht⟩ : ∃ t, t = b.tdiv 7 := ⟨_, rfl⟩
  rw [← ht] at c4 c5 q7
  have w7 : IntKind.i64.wrap (b.tdiv 7) = t := by rw [← ht, IntKind.wrap_i64]; omega
  clear ht
  generalize arF b 7 = kind at *
  generalize arF a 1022679 = r at *
  obtain ⟨k, hk2⟩ : ∃ k, k = 1 + r := ⟨_, rfl⟩
  rw [← hk2] at c2 he h1 h2 h3 h4 h6 ⊢
  have hk3 := hk2.symm
  generalize dY k = y at *
  generalize dM k = m at *
  have l1 := lenM_pos y h3 h4
  have ok1 : okD y m 1 := by unfold okD; omega
  have d1 := rstart_c G y (by omega) (by omega)
  have d2 := rstart_c G (y + 1) (by omega) (by omega)
  have d3 := rstart_c G (max 1 (y - 5)) (by omega) (by omega)
  have d4 := rstart_c G (min 2800 (y + 4) + 1) (by omega) (by omega)
  have d5 := rday_c G y m 1
  rw [dayF, if_pos ok1] at d5
  have d6 := rlen_c G y m (by omega) (by omega) (by omega) (by omega)
  have d7 := rstart_c G (min 2800 (y + u) + 1) (by omega) (by omega)
  have s1 := startI_le (y := y + 1) (by omega) (by omega)
  have s2 := startI_le (y := min 2800 (y + 4) + 1) (by omega) (by omega)
  have s3 := startI_le (y := min 2800 (y + u) + 1) (by omega) (by omega)
  have i1 := dayN_in ok1
  clear h5 h6 he ok1 hk2
  generalize startI y = S1 at *
  generalize startI (y + 1) = S2 at *
  generalize startI (max 1 (y - 5)) = S3 at *
  generalize startI (min 2800 (y + 4) + 1) = S4 at *
  generalize startI (min 2800 (y + u) + 1) = S5 at *
  generalize dayN y m 1 = D1 at *
  generalize lenM y m = L at *
  (refine PCalls_f Tryd.func19 rfl Tryd.ntmps19 Tryd.results19 (by simp) fun fin hfin => ?_; have hnm : True := trivial; simp (maxSteps := 2000000) (disch := omega) only [evb, ↓popG_eq, ↓pop.eq_1, ↓List.getElem?_map, ↓List.getElem?_cons_zero, ↓List.getElem?_cons_succ, pbuiltin, opnd, constPV, PState.put, layFrom, List.set, pnck, seqK, blockK, scopeK, pbin, pun, ppick, plen, pldop, pload, pfaddr, piaddr, pindex, pfield, pslice, pbound, pconv, pelems, pextract, pmm, parr, pbuild, pfill, PV.mem?, PV.one, PV.cells, pageq, peqs, peq1, palloc, pbox, pbuildS, pmakes, pstore, pappend, pcopy, pbytes, pmark, psrc, vcells, Value.oneCell', look, upd, del, names, Nat.reduceAdd, Nat.reduceMul, Nat.reduceSub, Nat.reduceLeDiff, Nat.reduceEqDiff, ↓reduceIte, ne_eq, reduceCtorEq, forall_const, times, Value.cells, exists_and_left, exists_eq_left', eq_self, Nat.reduceLT, Int.reduceLT, Int.reduceLE, Int.reduceToNat, Int.reduceAdd, Int.reduceSub, Int.reduceNeg, hnm, Tryd.tf0, Tryd.tf1, Tryd.tf2, Tryd.tf3, Tryd.tf4, Tryd.tf22, Tryd.tf23, Tryd.tf25, Tryd.tf30, Tryd.teq30, Tryd.teq57, Tryd.teq58, Tryd.teq79, Tryd.teq80, Tryd.teq86, Tryd.teq88, Tryd.teq96, Tryd.teq98, Tryd.call13, Tryd.call15, Tryd.call22, Tryd.call39, Tryd.call40])
  repeat' (first
    | (with_reducible apply W_seq_k; intro nx hnx)
    | with_reducible apply W_block
    | with_reducible apply W_scope
    | (with_reducible refine W_prune 3315 ?_; simp only [prune_cons, prune_nil, Nat.reducePow, Nat.reduceDiv, Nat.reduceMod, Nat.reduceBEq, cond_true, cond_false]; with_reducible apply W_region_l)
    | ((first | (with_reducible apply WL_op; intro nx hnx) | with_reducible refine Ev_out ?_ | (with_reducible refine pfresh_k hnm fun nm hnm => ?_; (try simp only [List.forall_mem_cons, List.not_mem_nil, false_implies, implies_true, and_true, true_and, ne_eq] at hnm))); try (simp (maxSteps := 2000000) (disch := omega) only [evb, ↓popG_eq, ↓pop.eq_1, ↓List.getElem?_map, ↓List.getElem?_cons_zero, ↓List.getElem?_cons_succ, pbuiltin, opnd, constPV, PState.put, layFrom, List.set, pnck, seqK, blockK, scopeK, pbin, pun, ppick, plen, pldop, pload, pfaddr, piaddr, pindex, pfield, pslice, pbound, pconv, pelems, pextract, pmm, parr, pbuild, pfill, PV.mem?, PV.one, PV.cells, pageq, peqs, peq1, palloc, pbox, pbuildS, pmakes, pstore, pappend, pcopy, pbytes, pmark, psrc, vcells, Value.oneCell', look, upd, del, names, Nat.reduceAdd, Nat.reduceMul, Nat.reduceSub, Nat.reduceLeDiff, Nat.reduceEqDiff, ↓reduceIte, ne_eq, reduceCtorEq, forall_const, times, Value.cells, exists_and_left, exists_eq_left', eq_self, Nat.reduceLT, Int.reduceLT, Int.reduceLE, Int.reduceToNat, Int.reduceAdd, Int.reduceSub, Int.reduceNeg, hnm, Tryd.tf0, Tryd.tf1, Tryd.tf2, Tryd.tf3, Tryd.tf4, Tryd.tf22, Tryd.tf23, Tryd.tf25, Tryd.tf30, Tryd.teq30, Tryd.teq57, Tryd.teq58, Tryd.teq79, Tryd.teq80, Tryd.teq86, Tryd.teq88, Tryd.teq96, Tryd.teq98, Tryd.call13, Tryd.call15, Tryd.call22, Tryd.call39, Tryd.call40, hk3, w7]); repeat (refine And.intro (by omega) ?_))
    | ((first | with_reducible apply WL_nil | with_reducible apply W_label | with_reducible apply W_skip | with_reducible apply W_exit | with_reducible apply W_ret); try simp only [seqK, blockK, scopeK, ↓reduceIte, Nat.reduceEqDiff])
    | (with_reducible apply W_cond_k; intro _ _ ea eb; (simp only [condK, not_true_eq_false, not_false_eq_true, opnd, constPV, List.getD_cons_zero, List.getD_cons_succ, fr_getD_cons, fr_getD_nil, Nat.reduceEqDiff, Nat.reduceLT, ↓reduceIte, hcb, reduceCtorEq, false_implies, true_implies, forall_const, bne_iff_ne, beq_iff_eq, ne_eq]); subst ea eb; first | (refine ⟨fun hc => ?_, fun hc => ?_⟩ <;> first | (exfalso; omega) | (exfalso; exact hc trivial) | skip) | skip)
    | (with_reducible apply hnx; clear hnx nx)
    | (with_reducible refine And.intro (by omega) ?_)
    | (with_reducible refine And.intro ?_ ?_)
    | (with_reducible refine pcall_k (c1) ?_; rintro _ _ ⟨rfl, rfl⟩ -; refine Ev_in ?_)
    | (with_reducible refine pcall_k (c2) ?_; rintro _ _ ⟨rfl, rfl⟩ -; refine Ev_in ?_)
    | (with_reducible refine pcall_k (c3) ?_; rintro _ _ ⟨rfl, rfl⟩ -; refine Ev_in ?_)
    | (with_reducible refine pcall_k (c4) ?_; rintro _ _ ⟨rfl, rfl⟩ -; refine Ev_in ?_)
    | (with_reducible refine pcall_k (c5) ?_; rintro _ _ ⟨rfl, rfl⟩ -; refine Ev_in ?_)
    | (with_reducible refine pcall_k (d1) ?_; rintro _ _ ⟨rfl, rfl⟩ -; refine Ev_in ?_)
    | (with_reducible refine pcall_k (d2) ?_; rintro _ _ ⟨rfl, rfl⟩ -; refine Ev_in ?_)
    | (with_reducible refine pcall_k (d3) ?_; rintro _ _ ⟨rfl, rfl⟩ -; refine Ev_in ?_)
    | (with_reducible refine pcall_k (d4) ?_; rintro _ _ ⟨rfl, rfl⟩ -; refine Ev_in ?_)
    | (with_reducible refine pcall_k (d5) ?_; rintro _ _ ⟨rfl, rfl⟩ -; refine Ev_in ?_)
    | (with_reducible refine pcall_k (d6) ?_; rintro _ _ ⟨rfl, rfl⟩ -; refine Ev_in ?_)
    | (with_reducible refine pcall_k (d7) ?_; rintro _ _ ⟨rfl, rfl⟩ -; refine Ev_in ?_)
    | (clear hnx nx; with_reducible apply hnx; clear hnx nx)
    | (clear hnx nx; clear hnx nx; with_reducible apply hnx; clear hnx nx)
    | (clear hnx nx; clear hnx nx; clear hnx nx; with_reducible apply hnx; clear hnx nx))
  all_goals first
    | (exfalso
       omega)
    | (first
        | rw [if_pos (by omega)] at hfin
        | rw [if_neg (by omega), if_pos (by omega)] at hfin
        | rw [if_neg (by omega), if_neg (by omega), if_pos (by omega)] at hfin
        | rw [if_neg (by omega), if_neg (by omega), if_neg (by omega), if_pos (by omega)] at hfin
        | rw [if_neg (by omega), if_neg (by omega), if_neg (by omega), if_neg (by omega), if_pos (by omega)] at hfin
        | rw [if_neg (by omega), if_neg (by omega), if_neg (by omega), if_neg (by omega), if_neg (by omega)] at hfin
       (refine hfin _ _ (Fin_span (by (try simp only [fr_getD_cons, Nat.reduceEqDiff, Nat.reduceLT, ↓reduceIte]); first | done | rfl) (by (try simp only [look, hnm, ↓reduceIte]); first | done | rfl) ?_); first | trivial | exact ⟨rfl, by trivial⟩ | (simp; done) | (simp; omega)))
end Go.PM

namespace Go.PM
theorem dgt_isDg (n : Int) : isDg (dgt n) = true := by
  rw [isDg_iff]
  have := dgt_nat n
  omega
theorem dgt_ne47 (n : Int) : dgt n ≠ 47 := by
  intro h
  have := dgt_nat n
  rw [h] at this
  have h2 : ((47 : UInt8).toNat : Int) = 47 := rfl
  omega
theorem dgt_ne99 (n : Int) : dgt n ≠ 99 := by
  intro h
  have := dgt_nat n
  rw [h] at this
  have h2 : ((99 : UInt8).toNat : Int) = 99 := rfl
  omega
theorem digB_pad4 (n : Int) : digB (pad4 n) = true := by simp [digB, pad4, dgt_isDg]
theorem digB_pad2 (n : Int) : digB (pad2 n) = true := by simp [digB, pad2, dgt_isDg]
theorem numF_pad4 {n : Int} (h0 : 0 ≤ n) (h1 : n ≤ 9999) : numF (pad4 n) = n := by
  rw [numF, if_pos (digB_pad4 n)]
  simp only [numN, pad4, List.foldl_cons, List.foldl_nil, dgt_nat]
  omega
theorem numF_pad2 {n : Int} (h0 : 0 ≤ n) (h1 : n ≤ 99) : numF (pad2 n) = n := by
  rw [numF, if_pos (digB_pad2 n)]
  simp only [numN, pad2, List.foldl_cons, List.foldl_nil, dgt_nat]
  omega
theorem ym_len (y m : Int) : (ymB y m).length = 7 := rfl
theorem ymd_len (y m d : Int) : (ymdB y m d).length = 10 := rfl
theorem dateP_y {y : Int} (h1 : 1 ≤ y) (h2 : y ≤ 2800) : dateP (pad4 y) = (startI y, startI (y + 1) - 1, 0) := by
  have hf : formB (pad4 y) = true := by rw [form_4 _ rfl, show (pad4 y).take 4 = pad4 y from rfl, digB_pad4]
  rw [dateP_ok _ hf, show (pad4 y).take 4 = pad4 y from rfl, numF_pad4 (by omega) (by omega), if_neg (by omega), if_pos (pad4_len y)]
theorem dateP_ym {y m : Int} (h : okD y m 1) : dateP (ymB y m) = (dayN y m 1, dayN y m 1 + lenM y m - 1, 0) := by
  have h' := h
  obtain ⟨h1, h2, h3, h4, _⟩ := h'
  have e1 : (ymB y m).take 4 = pad4 y := rfl
  have e2 : pcS (ymB y m) 5 7 = pad2 m := rfl
  have hf : formB (ymB y m) = true := by
    rw [form_7 _ rfl, e1, e2, digB_pad4, digB_pad2]
    rfl
  rw [dateP_ok _ hf, e1, e2, numF_pad4 (by omega) (by omega), numF_pad2 (by omega) (by omega), if_neg (by omega), if_neg (show ¬ (ymB y m).length = 4 by rw [ym_len]; decide), if_pos (ym_len y m), if_pos h]
theorem dateP_ymd {y m d : Int} (h : okD y m d) : dateP (ymdB y m d) = (dayN y m d, dayN y m d, 0) := by
  have h' := h
  obtain ⟨h1, h2, h3, h4, h5, h6⟩ := h'
  have l1 := lenM_pos y h3 h4
  have e1 : (ymdB y m d).take 4 = pad4 y := rfl
  have e2 : pcS (ymdB y m d) 5 7 = pad2 m := rfl
  have e3 : pcS (ymdB y m d) 8 10 = pad2 d := rfl
  have hf : formB (ymdB y m d) = true := by
    rw [form_10 _ rfl, e1, e2, e3, digB_pad4, digB_pad2, digB_pad2]
    rfl
  rw [dateP_ok _ hf, e1, e2, e3, numF_pad4 (by omega) (by omega), numF_pad2 (by omega) (by omega), numF_pad2 (by omega) (by omega), if_neg (by omega), if_neg (show ¬ (ymdB y m d).length = 4 by rw [ymd_len]; decide), if_neg (show ¬ (ymdB y m d).length = 7 by rw [ymd_len]; decide), if_pos h]
theorem dateP_begin {n : Int} (h1 : 1 ≤ n) (h2 : n ≤ 1022679) : ∃ x, dateP (beginP n) = (n, x, 0) := by
  obtain ⟨ho, he⟩ := date_ok h1 h2
  obtain ⟨o1, o2, o3, o4, o5, o6⟩ := ho
  have l1 := lenM_pos (dY n) o3 o4
  unfold beginP
  split
  · rename_i h
    rw [dateP_y o1 o2]
    rw [h.1, h.2, dayN_first] at he
    exact ⟨_, by rw [he]⟩
  · split
    · rename_i h
      rw [dateP_ym (by unfold okD; omega)]
      rw [h] at he
      exact ⟨_, by rw [he]⟩
    · rw [dateP_ymd ⟨o1, o2, o3, o4, o5, o6⟩, he]
      exact ⟨_, rfl⟩
theorem dateP_end {n : Int} (h1 : 1 ≤ n) (h2 : n ≤ 1022679) : ∃ x, dateP (endP n) = (x, n, 0) := by
  obtain ⟨ho, he⟩ := date_ok h1 h2
  obtain ⟨o1, o2, o3, o4, o5, o6⟩ := ho
  have l1 := lenM_pos (dY n) o3 o4
  unfold endP
  split
  · rename_i h
    rw [dateP_y o1 o2]
    rw [h.1, h.2, dayN_last] at he
    exact ⟨_, by rw [he]⟩
  · split
    · rename_i h
      rw [dateP_ym (by unfold okD; omega)]
      rw [h, dayN_end] at he
      exact ⟨_, by rw [he]⟩
    · rw [dateP_ymd ⟨o1, o2, o3, o4, o5, o6⟩, he]
      exact ⟨_, rfl⟩
/-- no '/' -/
def noS (s : List UInt8) : Prop := ∀ c ∈ s, c ≠ 47
theorem posL_noS : ∀ {s : List UInt8}, noS s → posL s = s.length
  | [], _ => rfl
  | c :: r, h => by
    have hc : c ≠ 47 := h c (.head _)
    have h2 : posL (c :: r) = posL r + 1 := by simp [posL, hc]
    rw [h2, posL_noS fun x hx => h x (.tail _ hx), List.length_cons]
theorem posL_app : ∀ {s : List UInt8} (t : List UInt8), noS s → posL (s ++ 47 :: t) = s.length
  | [], t, _ => by simp [posL]
  | c :: r, t, h => by
    have hc : c ≠ 47 := h c (.head _)
    have h2 : posL (c :: (r ++ 47 :: t)) = posL (r ++ 47 :: t) + 1 := by simp [posL, hc]
    rw [List.cons_append, h2, posL_app t fun x hx => h x (.tail _ hx), List.length_cons]
theorem noS_pad4 (n : Int) : noS (pad4 n) := by
  intro c hc
  simp only [pad4, List.mem_cons, List.not_mem_nil, or_false] at hc
  rcases hc with rfl | rfl | rfl | rfl <;> exact dgt_ne47 _
theorem noS_pad2 (n : Int) : noS (pad2 n) := by
  intro c hc
  simp only [pad2, List.mem_cons, List.not_mem_nil, or_false] at hc
  rcases hc with rfl | rfl <;> exact dgt_ne47 _
theorem noS_dash {s t : List UInt8} (h1 : noS s) (h2 : noS t) : noS (s ++ 45 :: t) := by
  intro c hc
  rcases List.mem_append.1 hc with h | h
  · exact h1 c h
  · rcases List.mem_cons.1 h with rfl | h
    · decide
    · exact h2 c h
theorem noS_ym (y m : Int) : noS (ymB y m) := noS_dash (noS_pad4 y) (noS_pad2 m)
theorem noS_ymd (y m d : Int) : noS (ymdB y m d) := noS_dash (noS_pad4 y) (noS_dash (noS_pad2 m) (noS_pad2 d))
theorem noS_begin (n : Int) : noS (beginP n) := by
  unfold beginP
  split
  · exact noS_pad4 _
  · split
    · exact noS_ym _ _
    · exact noS_ymd _ _ _
theorem first_pad4 (y : Int) (t : List UInt8) : ¬ (pad4 y ++ t).take 1 = [99] := by
  intro h
  have : dgt (y / 10 / 10 / 10) = 99 := by simpa [pad4] using h
  exact dgt_ne99 _ this
theorem parseP_date (s : List UInt8) (h1 : ¬ s.take 1 = [99]) (h2 : noS s) : parseP s = dateP s := by
  rw [parseP, if_neg h1, if_neg (by rw [posL_noS h2]; omega)]
theorem begin_form (n : Int) : ∃ y t, beginP n = pad4 y ++ t := by
  unfold beginP ymB ymdB
  split
  · exact ⟨dY n, [], (List.append_nil _).symm⟩
  · split
    · exact ⟨_, _, rfl⟩
    · exact ⟨_, _, rfl⟩
theorem aboutF_some {a b : Int} : ∀ {k : Nat} {z u : Int}, aboutF a b k z = some u → a = startI (max 1 (u - 5)) ∧ b = startI (min 2800 (u + 4) + 1) - 1 ∧ z ≤ u ∧ u < z + k
  | 0, z, u, h => by cases h
  | k + 1, z, u, h => by
    rw [aboutF] at h
    split at h
    · rename_i hc
      cases h
      exact ⟨hc.1, hc.2, by omega, by omega⟩
    · obtain ⟨h1, h2, h3, h4⟩ := aboutF_some h
      exact ⟨h1, h2, by omega, by omega⟩
/-- What is printed is read as it was. -/
theorem parse_print {a b : Int} (h : okS a b = true) : parseP (printP a b) = (a, b, 0) := by
  have hv := okS_iff.1 h
  obtain ⟨ho, he⟩ := date_ok (n := a) (by omega) (by omega)
  obtain ⟨o1, o2, o3, o4, o5, o6⟩ := ho
  have l1 := lenM_pos (dY a) o3 o4
  rw [printP, if_neg (by rw [h]; decide)]
  split
  · rename_i h1
    rw [parseP_date _ (by simpa using first_pad4 (dY a) []) (noS_pad4 _), dateP_y o1 o2, ← h1.1, ← h1.2]
  · cases hab : aboutF a b (min 2800 (dY a + 5) + 1 - dY a).toNat (dY a) with
    | some z =>
      obtain ⟨h1, h2, h3, h4⟩ := aboutF_some hab
      simp only
      rw [parseP, if_pos (by simp), show (99 :: pad4 z).drop 1 = pad4 z from rfl, aboutP, if_neg (by rw [digB_pad4]; simp [pad4_len]), numF_pad4 (by omega) (by omega), if_neg (by omega), ← h1, ← h2]
    | none =>
      simp only
      unfold restP
      split
      · rename_i h1
        rw [parseP_date (ymB (dY a) (dM a)) (first_pad4 _ _) (noS_ym _ _), dateP_ym (by unfold okD; omega), ← h1.1]
        have := h1.2
        rw [← h1.1] at this
        rw [← this]
      · split
        · rename_i h1
          rw [parseP_date (ymdB (dY a) (dM a) (dD a)) (first_pad4 _ _) (noS_ymd _ _ _), dateP_ymd ⟨o1, o2, o3, o4, o5, o6⟩, he, ← h1]
        · obtain ⟨x, hx⟩ := dateP_begin (n := a) (by omega) (by omega)
          obtain ⟨w, hw⟩ := dateP_end (n := b) (by omega) (by omega)
          have hn := noS_begin a
          have hp := posL_app (endP b) hn
          obtain ⟨y, t, hy⟩ := begin_form a
          rw [parseP, if_neg (by rw [hy, List.append_assoc]; exact first_pad4 _ _), hp, if_pos (by simp), List.take_left, show (beginP a).length + 1 = (beginP a).length + 1 from rfl, ← List.drop_drop, List.drop_left, show (47 :: endP b).drop 1 = endP b from rfl, hx, hw]
          simp only [bothP]
          rw [if_neg (by simp), if_neg (by simp; omega)]
end Go.PM

namespace Go.PM
theorem begin_le {n : Int} : (beginP n).length ≤ 10 ∧ (dD n = 1 → (beginP n).length ≤ 7) ∧ (dM n = 1 → dD n = 1 → (beginP n).length ≤ 4) := by
  unfold beginP
  split
  · rw [pad4_len]; omega
  · split
    · rw [ym_len]; omega
    · rw [ymd_len]; omega
theorem end_le {n : Int} : (endP n).length ≤ 10 ∧ (dD n = lenM (dY n) (dM n) → (endP n).length ≤ 7) ∧ (dM n = 12 → dD n = 31 → (endP n).length ≤ 4) := by
  unfold endP
  split
  · rw [pad4_len]; omega
  · split
    · rw [ym_len]; omega
    · rw [ymd_len]; omega
/-- How long a printed span is at most. -/
theorem print_le {a b : Int} : (printP a b).length ≤ 21 := by
  have h1 := (begin_le (n := a)).1
  have h2 := (end_le (n := b)).1
  unfold printP restP
  split
  · simp
  split
  · rw [pad4_len]; omega
  split
  · simp [pad4_len]
  split
  · rw [ym_len]; omega
  split
  · rw [ymd_len]; omega
  · rw [List.length_append, List.length_cons]; omega
end Go.PM

namespace Go.PM
open Go.Proofs
attribute [local irreducible] W PCalls pcall pcallI WL
/-- spans made of the numbers of a list -/
def mkS (l : List Int) (i : Nat) : List (Int × Int) := (List.range i).map fun j => madeF (l.getD (2 * j) 0) (l.getD (2 * j + 1) 0)
def spansF (l : List Int) (most : Nat) : List (Int × Int) := mkS l (min (l.length / 2) most)
theorem mkS_len (l : List Int) (i : Nat) : (mkS l i).length = i := by simp [mkS]
theorem mkS_succ (l : List Int) (i : Nat) : mkS l (i + 1) = mkS l i ++ [madeF (l.getD (2 * i) 0) (l.getD (2 * i + 1) 0)] := by
  simp [mkS, List.range_succ]
theorem flatS_len : ∀ cs : List (Int × Int), (flat (cs.map spv)).length = 2 * cs.length
  | [] => rfl
  | c :: cs => by
    have e : flat ((c :: cs).map spv) = [pint .i64 c.1, pint .i64 c.2] ++ flat (cs.map spv) := by simp [flat, PV.cells]
    rw [e, List.length_append, flatS_len cs]
    simp
    omega
theorem flatS_app (cs : List (Int × Int)) (c : Int × Int) : flat ((cs ++ [c]).map spv) = flat (cs.map spv) ++ [pint .i64 c.1, pint .i64 c.2] := by
  simp [flat, PV.cells]
theorem elems_spans : ∀ cs : List (Int × Int), elemsOf 2 (flat (cs.map spv)) cs.length = cs.map spv := by
  intro cs
  rw [elemsOf, if_neg (by decide)]
  induction cs with
  | nil => rfl
  | cons c cs ih =>
    have e : flat ((c :: cs).map spv) = [pint .i64 c.1, pint .i64 c.2] ++ flat (cs.map spv) := by simp [flat, PV.cells]
    rw [e, List.length_cons, List.range_succ_eq_map, List.map_cons, List.map_map, List.map_cons]
    refine List.cons_eq_cons.2 ⟨rfl, ?_⟩
    refine Eq.trans (List.map_congr_left fun i _ => ?_) ih
    simp only [Function.comp_apply]
    rw [show (i.succ) * 2 = i * 2 + 2 by omega, List.drop_append]
    simp
theorem flatS_one (cs : List (Int × Int)) : (flat (cs.map spv)).all PV.one = true := by
  induction cs with
  | nil => rfl
  | cons c cs ih =>
    have e : flat ((c :: cs).map spv) = [pint .i64 c.1, pint .i64 c.2] ++ flat (cs.map spv) := by simp [flat, PV.cells]
    rw [e, List.all_append, ih]
    rfl
set_option maxRecDepth 100000 in
set_option maxHeartbeats 8000000 in
theorem spans_r (G : Globs) (l : List Int) (hl : (l.length : Int) ≤ 9223372036854775807) (hb : ∀ x ∈ l, -9223372036854775808 ≤ x ∧ x ≤ 9223372036854775807) (most : Nat) (hm : most ≤ 1000) :
    PCalls Tryd.prog G 24 [.list 1 (l.map (pint .i64)), pint .i64 most] [] (fun res H => ∃ N, res = .row N 2 (spansF l most).length ∧ H = [(N, ⟨30, true, 2, flat ((spansF l most).map spv)⟩)]) := by
  (refine PCalls_f Tryd.func24 rfl Tryd.ntmps24 Tryd.results24 (by simp) fun fin hfin => ?_; have hnm : True := trivial; simp (maxSteps := 2000000) (disch := omega) only [evb, ↓popG_eq, ↓pop.eq_1, ↓List.getElem?_map, ↓List.getElem?_cons_zero, ↓List.getElem?_cons_succ, pbuiltin, opnd, constPV, PState.put, layFrom, List.set, pnck, seqK, blockK, scopeK, pbin, pun, ppick, plen, pldop, pload, pfaddr, piaddr, pindex, pfield, pslice, pbound, pconv, pelems, pextract, pmm, parr, pbuild, pfill, PV.mem?, PV.one, PV.cells, pageq, peqs, peq1, palloc, pbox, pbuildS, pmakes, pstore, pappend, pcopy, pbytes, pmark, psrc, vcells, Value.oneCell', look, upd, del, names, Nat.reduceAdd, Nat.reduceMul, Nat.reduceSub, Nat.reduceLeDiff, Nat.reduceEqDiff, ↓reduceIte, ne_eq, reduceCtorEq, forall_const, times, Value.cells, exists_and_left, exists_eq_left', eq_self, Nat.reduceLT, Int.reduceLT, Int.reduceLE, Int.reduceToNat, Int.reduceAdd, Int.reduceSub, Int.reduceNeg, hnm, Tryd.tf0, Tryd.tf1, Tryd.tf3, Tryd.tf4, Tryd.tf30, Tryd.teq30, Tryd.tf41, Tryd.tf42, Tryd.teq57, Tryd.teq58, Tryd.teq79, Tryd.teq80, Tryd.teq86, Tryd.teq88, Tryd.teq96, Tryd.teq98, Tryd.call19])
  repeat' (first
    | (with_reducible apply W_seq_k; intro nx hnx)
    | with_reducible apply W_block
    | with_reducible apply W_scope
    | (with_reducible refine W_prune 115 ?_; simp only [prune_cons, prune_nil, Nat.reducePow, Nat.reduceDiv, Nat.reduceMod, Nat.reduceBEq, cond_true, cond_false]; with_reducible apply W_region_l)
    | (with_reducible refine W_prune 115 ?_; simp only [prune_cons, prune_nil, Nat.reducePow, Nat.reduceDiv, Nat.reduceMod, Nat.reduceBEq, cond_true, cond_false]; with_reducible refine W_region_draw (id := 5) 4 (.op 0 true (.op 1 true (.op 2 true (.op 3 true (.op 4 true (.op 5 true (.op 6 true (.op 7 true (.op 8 true (.op 9 true (.op 10 false (.op 11 false (.op 12 false (.op 13 true (.done))))))))))))))) (by kernel_rfl) ?_)
    | ((first | (with_reducible apply WL_op; intro nx hnx) | with_reducible refine Ev_out ?_ | (with_reducible apply popsD_op; intro nx hnx) | (with_reducible refine popsD_alt ?_ ?_; intro nx hnx) | (with_reducible refine pfresh_k hnm fun nm hnm => ?_; (try simp only [List.forall_mem_cons, List.not_mem_nil, false_implies, implies_true, and_true, true_and, ne_eq] at hnm))); try (simp (maxSteps := 2000000) (disch := omega) only [evb, ↓popG_eq, ↓pop.eq_1, ↓List.getElem?_map, ↓List.getElem?_cons_zero, ↓List.getElem?_cons_succ, pbuiltin, opnd, constPV, PState.put, layFrom, List.set, pnck, seqK, blockK, scopeK, pbin, pun, ppick, plen, pldop, pload, pfaddr, piaddr, pindex, pfield, pslice, pbound, pconv, pelems, pextract, pmm, parr, pbuild, pfill, PV.mem?, PV.one, PV.cells, pageq, peqs, peq1, palloc, pbox, pbuildS, pmakes, pstore, pappend, pcopy, pbytes, pmark, psrc, vcells, Value.oneCell', look, upd, del, names, Nat.reduceAdd, Nat.reduceMul, Nat.reduceSub, Nat.reduceLeDiff, Nat.reduceEqDiff, ↓reduceIte, ne_eq, reduceCtorEq, forall_const, times, Value.cells, exists_and_left, exists_eq_left', eq_self, Nat.reduceLT, Int.reduceLT, Int.reduceLE, Int.reduceToNat, Int.reduceAdd, Int.reduceSub, Int.reduceNeg, hnm, Tryd.tf0, Tryd.tf1, Tryd.tf3, Tryd.tf4, Tryd.tf30, Tryd.teq30, Tryd.tf41, Tryd.tf42, Tryd.teq57, Tryd.teq58, Tryd.teq79, Tryd.teq80, Tryd.teq86, Tryd.teq88, Tryd.teq96, Tryd.teq98, Tryd.call19]); repeat (refine And.intro (by omega) ?_))
    | ((first | with_reducible apply WL_nil | with_reducible apply W_label | with_reducible apply W_skip | with_reducible apply W_exit | with_reducible apply W_ret | with_reducible apply popsD_done); try simp only [seqK, blockK, scopeK, ↓reduceIte, Nat.reduceEqDiff])
    | with_reducible exact popsD_stop
    | (with_reducible apply pguard_intro <;> (intro hc; (try simp only [hcb, reduceCtorEq, false_implies, true_implies, forall_const, bne_iff_ne, beq_iff_eq, ne_eq] at hc); first | (exfalso; omega) | (exfalso; exact hc trivial) | refine Ev_in ?_))
    | (with_reducible apply W_cond_k; intro _ _ ea eb; (simp only [condK, not_true_eq_false, not_false_eq_true, opnd, constPV, List.getD_cons_zero, List.getD_cons_succ, fr_getD_cons, fr_getD_nil, Nat.reduceEqDiff, Nat.reduceLT, ↓reduceIte, hcb, reduceCtorEq, false_implies, true_implies, forall_const, bne_iff_ne, beq_iff_eq, ne_eq]); subst ea eb; first | (refine ⟨fun hc => ?_, fun hc => ?_⟩ <;> first | (exfalso; omega) | (exfalso; exact hc trivial) | skip) | skip)
    | (with_reducible apply hnx; clear hnx nx)
    | (with_reducible refine And.intro (by omega) ?_)
    | (with_reducible refine And.intro ?_ ?_)
    | (clear hnx nx; with_reducible apply hnx; clear hnx nx)
    | (clear hnx nx; clear hnx nx; with_reducible apply hnx; clear hnx nx)
    | (clear hnx nx; clear hnx nx; clear hnx nx; with_reducible apply hnx; clear hnx nx))
  refine W_adopt_f 5 30 2 (by simp only [fr_getD_cons, Nat.reduceEqDiff, Nat.reduceLT, ↓reduceIte]) fun N0 _ => ?_
  refine W_loop_k (fun k τ => ∃ (i : Nat) (N : Int), i ≤ l.length / 2 ∧ i ≤ most ∧ k = most - i ∧ τ = ⟨fr 34 [(0, .list 1 (l.map (pint .i64))), (1, pint .i64 most), (5, .row N 2 i), (6, pint .i64 ((2 * i : Nat) : Int))], [(N, ⟨30, true, 2, flat ((mkS l i).map spv)⟩)]⟩) most
    ⟨fr 34 [(0, .list 1 (l.map (pint .i64))), (1, pint .i64 most), (5, .row N0 2 0), (6, pint .i64 0)], [(N0, ⟨30, true, 2, []⟩)]⟩ (by
    refine Wk_fr (by simp only [List.forall_mem_cons, List.not_mem_nil, false_implies, implies_true, and_true, true_and, and_self, fr_getD_cons, fr_getD_nil, Nat.reduceEqDiff, Nat.reduceLT, ↓reduceIte, Int.natCast_add, Int.cast_ofNat_Int, Int.natCast_zero]) ?_
    exact ⟨by simp, by simp [names]⟩) ⟨0, N0, by omega, by omega, by omega, rfl⟩ ?_
  rintro k τ ⟨i, N, hi, hi2, rfl, rfl⟩ lp hlp
  by_cases hg : i < min (l.length / 2) most
  · have ha := hb (l.getD (2 * i) 0) (by
      have : l.getD (2 * i) 0 = l[2 * i]'(by omega) := by simp [show 2 * i < l.length by omega]
      rw [this]
      exact List.getElem_mem _)
    have hb2 := hb (l.getD (2 * i + 1) 0) (by
      have : l.getD (2 * i + 1) 0 = l[2 * i + 1]'(by omega) := by simp [show 2 * i + 1 < l.length by omega]
      rw [this]
      exact List.getElem_mem _)
    have g1 : l[2 * i]'(by omega) = l.getD (2 * i) 0 := by simp [show 2 * i < l.length by omega]
    have g2 : l[2 * i + 1]'(by omega) = l.getD (2 * i + 1) 0 := by simp [show 2 * i + 1 < l.length by omega]
    have c1 := made_c G _ _ ha hb2
    have hs := mkS_succ l i
    have hfl := flatS_len (mkS l i)
    rw [mkS_len] at hfl
    have ho := flatS_one (mkS l i)
    have hf := flatS_app (mkS l i) (madeF (l.getD (2 * i) 0) (l.getD (2 * i + 1) 0))
    rw [← hs] at hf
    generalize madeF (l.getD (2 * i) 0) (l.getD (2 * i + 1) 0) = M at *
    generalize l.getD (2 * i) 0 = x at *
    generalize l.getD (2 * i + 1) 0 = y at *
    generalize flat ((mkS l i).map spv) = Z at *
    repeat' (first
    | (with_reducible apply W_seq_k; intro nx hnx)
    | with_reducible apply W_block
    | with_reducible apply W_scope
    | (with_reducible refine W_prune 115 ?_; simp only [prune_cons, prune_nil, Nat.reducePow, Nat.reduceDiv, Nat.reduceMod, Nat.reduceBEq, cond_true, cond_false]; with_reducible apply W_region_l)
    | (with_reducible refine W_prune 115 ?_; simp only [prune_cons, prune_nil, Nat.reducePow, Nat.reduceDiv, Nat.reduceMod, Nat.reduceBEq, cond_true, cond_false]; with_reducible refine W_region_draw (id := 5) 4 (.op 0 true (.op 1 true (.op 2 true (.op 3 true (.op 4 true (.op 5 true (.op 6 true (.op 7 true (.op 8 true (.op 9 true (.op 10 false (.op 11 false (.op 12 false (.op 13 true (.done))))))))))))))) (by kernel_rfl) ?_)
    | ((first | (with_reducible apply WL_op; intro nx hnx) | with_reducible refine Ev_out ?_ | (with_reducible apply popsD_op; intro nx hnx) | (with_reducible refine popsD_alt ?_ ?_; intro nx hnx) | (with_reducible refine pfresh_k hnm fun nm hnm => ?_; (try simp only [List.forall_mem_cons, List.not_mem_nil, false_implies, implies_true, and_true, true_and, ne_eq] at hnm))); try (simp (maxSteps := 2000000) (disch := omega) only [evb, ↓popG_eq, ↓pop.eq_1, ↓List.getElem?_map, ↓List.getElem?_cons_zero, ↓List.getElem?_cons_succ, pbuiltin, opnd, constPV, PState.put, layFrom, List.set, pnck, seqK, blockK, scopeK, pbin, pun, ppick, plen, pldop, pload, pfaddr, piaddr, pindex, pfield, pslice, pbound, pconv, pelems, pextract, pmm, parr, pbuild, pfill, PV.mem?, PV.one, PV.cells, pageq, peqs, peq1, palloc, pbox, pbuildS, pmakes, pstore, pappend, pcopy, pbytes, pmark, psrc, vcells, Value.oneCell', look, upd, del, names, Nat.reduceAdd, Nat.reduceMul, Nat.reduceSub, Nat.reduceLeDiff, Nat.reduceEqDiff, ↓reduceIte, ne_eq, reduceCtorEq, forall_const, times, Value.cells, exists_and_left, exists_eq_left', eq_self, Nat.reduceLT, Int.reduceLT, Int.reduceLE, Int.reduceToNat, Int.reduceAdd, Int.reduceSub, Int.reduceNeg, hnm, Tryd.tf0, Tryd.tf1, Tryd.tf3, Tryd.tf4, Tryd.tf30, Tryd.teq30, Tryd.tf41, Tryd.tf42, Tryd.teq57, Tryd.teq58, Tryd.teq79, Tryd.teq80, Tryd.teq86, Tryd.teq88, Tryd.teq96, Tryd.teq98, Tryd.call19, g1, g2, hfl, ho]); repeat (refine And.intro (by omega) ?_))
    | ((first | with_reducible apply WL_nil | with_reducible apply W_label | with_reducible apply W_skip | with_reducible apply W_exit | with_reducible apply W_ret | with_reducible apply popsD_done); try simp only [seqK, blockK, scopeK, ↓reduceIte, Nat.reduceEqDiff])
    | with_reducible exact popsD_stop
    | (with_reducible apply pguard_intro <;> (intro hc; (try simp only [hcb, reduceCtorEq, false_implies, true_implies, forall_const, bne_iff_ne, beq_iff_eq, ne_eq] at hc); first | (exfalso; omega) | (exfalso; exact hc trivial) | refine Ev_in ?_))
    | (with_reducible apply W_cond_k; intro _ _ ea eb; (simp only [condK, not_true_eq_false, not_false_eq_true, opnd, constPV, List.getD_cons_zero, List.getD_cons_succ, fr_getD_cons, fr_getD_nil, Nat.reduceEqDiff, Nat.reduceLT, ↓reduceIte, hcb, reduceCtorEq, false_implies, true_implies, forall_const, bne_iff_ne, beq_iff_eq, ne_eq]); subst ea eb; first | (refine ⟨fun hc => ?_, fun hc => ?_⟩ <;> first | (exfalso; omega) | (exfalso; exact hc trivial) | skip) | skip)
    | (with_reducible apply hnx; clear hnx nx)
    | (with_reducible refine And.intro (by omega) ?_)
    | (with_reducible refine And.intro ?_ ?_)
    | (with_reducible refine pcall_k (c1) ?_; rintro _ _ ⟨rfl, rfl⟩ -; refine Ev_in ?_)
    | (clear hnx nx; with_reducible apply hnx; clear hnx nx)
    | (clear hnx nx; clear hnx nx; with_reducible apply hnx; clear hnx nx)
    | (clear hnx nx; clear hnx nx; clear hnx nx; with_reducible apply hnx; clear hnx nx))
    all_goals first
      | (exfalso
         omega)
      | skip
    have e6 : ((2 * (i + 1) : Nat) : Int) = ((2 * i : Nat) : Int) + 2 := by omega
    refine hlp _ (most - (i + 1)) _ (by omega) ?_ ⟨i + 1, nm, by omega, by omega, rfl, rfl⟩
    rw [e6, hf]
    refine Wk_fr (by simp only [List.forall_mem_cons, List.not_mem_nil, false_implies, implies_true, and_true, true_and, and_self, fr_getD_cons, fr_getD_nil, Nat.reduceEqDiff, Nat.reduceLT, ↓reduceIte, Int.natCast_add, Int.cast_ofNat_Int, Int.natCast_zero]) ?_
    exact ⟨by simp, by simp [names]⟩
  · have hi3 : i = min (l.length / 2) most := by omega
    repeat' (first
    | (with_reducible apply W_seq_k; intro nx hnx)
    | with_reducible apply W_block
    | with_reducible apply W_scope
    | (with_reducible refine W_prune 115 ?_; simp only [prune_cons, prune_nil, Nat.reducePow, Nat.reduceDiv, Nat.reduceMod, Nat.reduceBEq, cond_true, cond_false]; with_reducible apply W_region_l)
    | (with_reducible refine W_prune 115 ?_; simp only [prune_cons, prune_nil, Nat.reducePow, Nat.reduceDiv, Nat.reduceMod, Nat.reduceBEq, cond_true, cond_false]; with_reducible refine W_region_draw (id := 5) 4 (.op 0 true (.op 1 true (.op 2 true (.op 3 true (.op 4 true (.op 5 true (.op 6 true (.op 7 true (.op 8 true (.op 9 true (.op 10 false (.op 11 false (.op 12 false (.op 13 true (.done))))))))))))))) (by kernel_rfl) ?_)
    | ((first | (with_reducible apply WL_op; intro nx hnx) | with_reducible refine Ev_out ?_ | (with_reducible apply popsD_op; intro nx hnx) | (with_reducible refine popsD_alt ?_ ?_; intro nx hnx) | (with_reducible refine pfresh_k hnm fun nm hnm => ?_; (try simp only [List.forall_mem_cons, List.not_mem_nil, false_implies, implies_true, and_true, true_and, ne_eq] at hnm))); try (simp (maxSteps := 2000000) (disch := omega) only [evb, ↓popG_eq, ↓pop.eq_1, ↓List.getElem?_map, ↓List.getElem?_cons_zero, ↓List.getElem?_cons_succ, pbuiltin, opnd, constPV, PState.put, layFrom, List.set, pnck, seqK, blockK, scopeK, pbin, pun, ppick, plen, pldop, pload, pfaddr, piaddr, pindex, pfield, pslice, pbound, pconv, pelems, pextract, pmm, parr, pbuild, pfill, PV.mem?, PV.one, PV.cells, pageq, peqs, peq1, palloc, pbox, pbuildS, pmakes, pstore, pappend, pcopy, pbytes, pmark, psrc, vcells, Value.oneCell', look, upd, del, names, Nat.reduceAdd, Nat.reduceMul, Nat.reduceSub, Nat.reduceLeDiff, Nat.reduceEqDiff, ↓reduceIte, ne_eq, reduceCtorEq, forall_const, times, Value.cells, exists_and_left, exists_eq_left', eq_self, Nat.reduceLT, Int.reduceLT, Int.reduceLE, Int.reduceToNat, Int.reduceAdd, Int.reduceSub, Int.reduceNeg, hnm, Tryd.tf0, Tryd.tf1, Tryd.tf3, Tryd.tf4, Tryd.tf30, Tryd.teq30, Tryd.tf41, Tryd.tf42, Tryd.teq57, Tryd.teq58, Tryd.teq79, Tryd.teq80, Tryd.teq86, Tryd.teq88, Tryd.teq96, Tryd.teq98, Tryd.call19]); repeat (refine And.intro (by omega) ?_))
    | ((first | with_reducible apply WL_nil | with_reducible apply W_label | with_reducible apply W_skip | with_reducible apply W_exit | with_reducible apply W_ret | with_reducible apply popsD_done); try simp only [seqK, blockK, scopeK, ↓reduceIte, Nat.reduceEqDiff])
    | with_reducible exact popsD_stop
    | (with_reducible apply pguard_intro <;> (intro hc; (try simp only [hcb, reduceCtorEq, false_implies, true_implies, forall_const, bne_iff_ne, beq_iff_eq, ne_eq] at hc); first | (exfalso; omega) | (exfalso; exact hc trivial) | refine Ev_in ?_))
    | (with_reducible apply W_cond_k; intro _ _ ea eb; (simp only [condK, not_true_eq_false, not_false_eq_true, opnd, constPV, List.getD_cons_zero, List.getD_cons_succ, fr_getD_cons, fr_getD_nil, Nat.reduceEqDiff, Nat.reduceLT, ↓reduceIte, hcb, reduceCtorEq, false_implies, true_implies, forall_const, bne_iff_ne, beq_iff_eq, ne_eq]); subst ea eb; first | (refine ⟨fun hc => ?_, fun hc => ?_⟩ <;> first | (exfalso; omega) | (exfalso; exact hc trivial) | skip) | skip)
    | (with_reducible apply hnx; clear hnx nx)
    | (with_reducible refine And.intro (by omega) ?_)
    | (with_reducible refine And.intro ?_ ?_)
    | (clear hnx nx; with_reducible apply hnx; clear hnx nx)
    | (clear hnx nx; clear hnx nx; with_reducible apply hnx; clear hnx nx)
    | (clear hnx nx; clear hnx nx; clear hnx nx; with_reducible apply hnx; clear hnx nx))
    all_goals first
      | (exfalso
         omega)
      | (refine hfin _ _ (Fin_ret1 rfl (H := [(N, ⟨30, true, 2, flat ((mkS l i).map spv)⟩)]) ⟨by simp, by simp [names]⟩ ?_)
         simp only [fr_getD_cons, fr_getD_nil, Nat.reduceEqDiff, Nat.reduceLT, ↓reduceIte]
         refine ⟨N, ?_, ?_⟩
         · rw [spansF, mkS_len, ← hi3]
         · rw [spansF, ← hi3])
theorem spans_c (G : Globs) (l : List Int) (hl : (l.length : Int) ≤ 9223372036854775807) (hb : ∀ x ∈ l, -9223372036854775808 ≤ x ∧ x ≤ 9223372036854775807) (most : Nat) (hm : most ≤ 1000) :
    PCalls Tryd.prog G 24 [.list 1 (l.map (pint .i64)), pint .i64 most] [] (fun res H => res = .list 2 ((spansF l most).map spv) ∧ H = []) := by
  refine (spans_r G l hl hb most hm).frz fun res H hR => ?_
  obtain ⟨n, rfl, rfl⟩ := hR
  generalize spansF l most = xs
  refine ⟨_, _, .step n ⟨30, true, 2, flat (xs.map spv)⟩ (by simp [look]) (by simp [frzOk, del]) (.refl _ _), ?_, ?_⟩
  · have h := flatS_len xs
    simp only [PM.frz, frz1, if_true]
    rw [if_pos (by omega), elems_spans]
  · simp [frzH, del]
theorem spansF_ok (l : List Int) (most : Nat) : allS (spansF l most) = true := by
  unfold allS spansF mkS
  rw [List.all_eq_true]
  intro x hx
  obtain ⟨j, _, rfl⟩ := List.mem_map.1 hx
  exact made_ok _ _
theorem spansF_len (l : List Int) (most : Nat) : (spansF l most).length ≤ most := by
  unfold spansF
  rw [mkS_len]
  omega
end Go.PM

namespace Go.PM
open Go.Proofs
attribute [local irreducible] W PCalls pcall pcallI WL
theorem peqs_bytes : ∀ (n : Nat) (d e : List UInt8), d.length = n → e.length = n → peqs (List.replicate n (.int .u8)) (d.map pbyte) (e.map pbyte) = some (decide (d = e))
  | 0, [], [], _, _ => by simp [peqs]
  | n + 1, a :: d, b :: e, h1, h2 => by
    have ih := peqs_bytes n d e (by simpa using h1) (by simpa using h2)
    simp only [List.replicate_succ, List.map_cons, peqs, ih, peq1, if_true]
    congr 1
    have : ((a.toNat : Int) == (b.toNat : Int)) = decide (a = b) := by
      rw [Bool.eq_iff_iff]
      simp only [beq_iff_eq, decide_eq_true_eq]
      exact ⟨fun h => UInt8.toNat_inj.1 (Int.ofNat_inj.1 h), fun h => by rw [h]⟩
    rw [this]
    simp
theorem q16 (a b : List UInt8) (h1 : a.length = 16) (h2 : b.length = 16) : peqs [.int .u8, .int .u8, .int .u8, .int .u8, .int .u8, .int .u8, .int .u8, .int .u8, .int .u8, .int .u8, .int .u8, .int .u8, .int .u8, .int .u8, .int .u8, .int .u8] (a.map pbyte) (b.map pbyte) = some (decide (a = b)) := peqs_bytes 16 a b h1 h2
theorem enc_le : ∀ (T : List (List UInt8)), (∀ s ∈ T, s.length ≤ 21) → (T.flatMap bytesB).length ≤ 30 * T.length
  | [], _ => by simp
  | s :: T, h => by
    have h1 := enc_le T fun x hx => h x (.tail _ hx)
    have h2 := h s (.head _)
    have h3 := intB_len9 (n := s.length) ⟨by omega, by omega⟩
    have h4 : (bytesB s).length ≤ 30 := by
      unfold bytesB
      rw [List.length_append]
      omega
    rw [List.flatMap_cons, List.length_append, List.length_cons]
    omega
set_option maxRecDepth 100000 in
set_option maxHeartbeats 8000000 in
theorem law11 (G : Globs) (hG : GL G) (hG1 : G 1 = .iptr (KS.map pw) 0) (l : List Int) (hl : (l.length : Int) ≤ 9223372036854775807) (hb : ∀ x ∈ l, -9223372036854775808 ≤ x ∧ x ≤ 9223372036854775807) :
    PCalls Tryd.prog G 11 [.list 1 (l.map (pint .i64))] [] (fun res H => res = pbool true ∧ H = []) := by
  have c0 := lives_c G hG
  have c1 : PCalls Tryd.prog G 24 [.list 1 (l.map (pint .i64)), pint .i64 8] [] (fun res H => res = .list 2 ((spansF l 8).map spv) ∧ H = []) := spans_c G l hl hb 8 (by omega)
  have hS := spansF_ok l 8
  have hL := spansF_len l 8
  generalize spansF l 8 = sp at *
  obtain ⟨T, hT⟩ : ∃ T, T = sp.map (fun p => printP p.1 p.2) := ⟨_, rfl⟩
  have hTl : T.length = sp.length := by rw [hT, List.length_map]
  have hTs : ∀ s ∈ T, s.length ≤ 21 := by
    rw [hT]
    intro s hs
    obtain ⟨p, _, rfl⟩ := List.mem_map.1 hs
    exact print_le
  have hTg : ∀ i (h : i < sp.length), T[i]? = some (printP sp[i].1 sp[i].2) := fun i h => by
    rw [hT, List.getElem?_map, List.getElem?_eq_getElem h]
    rfl
  have hTt : ∀ i (h : i < sp.length), T.take (i + 1) = T.take i ++ [printP sp[i].1 sp[i].2] := fun i h => by
    rw [List.take_add_one, hTg i h]
    rfl
  have hen : (encL bytesB T).length ≤ 1000 := by
    have h1 := enc_le T hTs
    have h2 := intB_len9 (n := T.length) ⟨by omega, by omega⟩
    unfold encL
    rw [List.length_append]
    omega
  have c2 := wstrs_c G T (fun s hs => by have := hTs s hs; omega) (by omega) (by omega)
  have c3 := getStrs_c G (encL bytesB T) (by omega)
  have hd := gLs_enc (g := gS) (enc := bytesB) 1 T [] (by omega) (by omega) (fun x hx t => gS_enc x t (by have := hTs x hx; omega)) (fun x hx => by
    have h3 := intB_len9 (n := x.length) ⟨by omega, by have := hTs x hx; omega⟩
    unfold bytesB
    rw [List.length_append]
    omega)
  rw [List.append_nil] at hd
  rw [hd] at c3
  simp only at c3
  clear hd
  generalize encL bytesB T = B at *
  have c4 := hof_c G hG1 3 [B] (by simp; omega) (by simp)
  simp only [List.map_cons, List.map_nil] at c4
  have hDl := ofH_len 3 [B]
  generalize ofH 3 [B] = D at *
  have hq16 := q16 D D hDl hDl
  have hb1 := isByte_pb B
  have hb2 := unb_pb B
  clear hT hTs hb hl
  (refine PCalls_f Tryd.func11 rfl Tryd.ntmps11 Tryd.results11 (by simp) fun fin hfin => ?_; have hnm : True := trivial; simp (maxSteps := 2000000) (disch := omega) only [evb, ↓popG_eq, ↓pop.eq_1, ↓List.getElem?_map, ↓List.getElem?_cons_zero, ↓List.getElem?_cons_succ, pbuiltin, opnd, constPV, PState.put, layFrom, List.set, pnck, seqK, blockK, scopeK, pbin, pun, ppick, plen, pldop, pload, pfaddr, piaddr, pindex, pfield, pslice, pbound, pconv, pelems, pextract, pmm, parr, pbuild, pfill, PV.mem?, PV.one, PV.cells, pageq, peqs, peq1, palloc, pbox, pbuildS, pmakes, pstore, pappend, pcopy, pbytes, pmark, psrc, vcells, Value.oneCell', look, upd, del, names, Nat.reduceAdd, Nat.reduceMul, Nat.reduceSub, Nat.reduceLeDiff, Nat.reduceEqDiff, ↓reduceIte, ne_eq, reduceCtorEq, forall_const, times, Value.cells, exists_and_left, exists_eq_left', eq_self, Nat.reduceLT, Int.reduceLT, Int.reduceLE, Int.reduceToNat, Int.reduceAdd, Int.reduceSub, Int.reduceNeg, hnm, Tryd.tf0, Tryd.tf1, Tryd.tf2, Tryd.tf3, Tryd.tf4, Tryd.tf5, Tryd.tf9, Tryd.tf22, Tryd.tf30, Tryd.teq30, Tryd.tf31, Tryd.tf41, Tryd.tf42, Tryd.tf52, Tryd.tf53, Tryd.tf55, Tryd.teq57, Tryd.tf58, Tryd.teq58, Tryd.teq79, Tryd.teq80, Tryd.teq86, Tryd.teq88, Tryd.teq96, Tryd.teq98, Tryd.call16, Tryd.call17, Tryd.call20, Tryd.call24, Tryd.call33, Tryd.call34, Tryd.call35])
  repeat' (first
    | (with_reducible apply W_seq_k; intro nx hnx)
    | with_reducible apply W_block
    | with_reducible apply W_scope
    | (with_reducible refine W_prune 16381 ?_; simp only [prune_cons, prune_nil, Nat.reducePow, Nat.reduceDiv, Nat.reduceMod, Nat.reduceBEq, cond_true, cond_false]; with_reducible apply W_region_l)
    | (with_reducible refine W_prune 16381 ?_; simp only [prune_cons, prune_nil, Nat.reducePow, Nat.reduceDiv, Nat.reduceMod, Nat.reduceBEq, cond_true, cond_false]; with_reducible refine W_region_draw (id := 16) 1 (.op 0 true (.op 1 true (.op 2 true (.op 3 true (.op 4 true (.op 5 true (.op 6 true (.op 7 true (.op 8 true (.op 9 true (.done))))))))))) (by kernel_rfl) ?_)
    | ((first | (with_reducible apply WL_op; intro nx hnx) | with_reducible refine Ev_out ?_ | (with_reducible apply popsD_op; intro nx hnx) | (with_reducible refine popsD_alt ?_ ?_; intro nx hnx) | (with_reducible refine pfresh_k hnm fun nm hnm => ?_; (try simp only [List.forall_mem_cons, List.not_mem_nil, false_implies, implies_true, and_true, true_and, ne_eq] at hnm))); try (simp (maxSteps := 2000000) (disch := omega) only [evb, ↓popG_eq, ↓pop.eq_1, ↓List.getElem?_map, ↓List.getElem?_cons_zero, ↓List.getElem?_cons_succ, pbuiltin, opnd, constPV, PState.put, layFrom, List.set, pnck, seqK, blockK, scopeK, pbin, pun, ppick, plen, pldop, pload, pfaddr, piaddr, pindex, pfield, pslice, pbound, pconv, pelems, pextract, pmm, parr, pbuild, pfill, PV.mem?, PV.one, PV.cells, pageq, peqs, peq1, palloc, pbox, pbuildS, pmakes, pstore, pappend, pcopy, pbytes, pmark, psrc, vcells, Value.oneCell', look, upd, del, names, Nat.reduceAdd, Nat.reduceMul, Nat.reduceSub, Nat.reduceLeDiff, Nat.reduceEqDiff, ↓reduceIte, ne_eq, reduceCtorEq, forall_const, times, Value.cells, exists_and_left, exists_eq_left', eq_self, Nat.reduceLT, Int.reduceLT, Int.reduceLE, Int.reduceToNat, Int.reduceAdd, Int.reduceSub, Int.reduceNeg, hnm, Tryd.tf0, Tryd.tf1, Tryd.tf2, Tryd.tf3, Tryd.tf4, Tryd.tf5, Tryd.tf9, Tryd.tf22, Tryd.tf30, Tryd.teq30, Tryd.tf31, Tryd.tf41, Tryd.tf42, Tryd.tf52, Tryd.tf53, Tryd.tf55, Tryd.teq57, Tryd.tf58, Tryd.teq58, Tryd.teq79, Tryd.teq80, Tryd.teq86, Tryd.teq88, Tryd.teq96, Tryd.teq98, Tryd.call16, Tryd.call17, Tryd.call20, Tryd.call24, Tryd.call33, Tryd.call34, Tryd.call35]); repeat (refine And.intro (by omega) ?_))
    | ((first | with_reducible apply WL_nil | with_reducible apply W_label | with_reducible apply W_skip | with_reducible apply W_exit | with_reducible apply W_ret | with_reducible apply popsD_done); try simp only [seqK, blockK, scopeK, ↓reduceIte, Nat.reduceEqDiff])
    | with_reducible exact popsD_stop
    | (with_reducible apply pguard_intro <;> (intro hc; (try simp only [hcb, reduceCtorEq, false_implies, true_implies, forall_const, bne_iff_ne, beq_iff_eq, ne_eq] at hc); first | (exfalso; omega) | (exfalso; exact hc trivial) | refine Ev_in ?_))
    | (with_reducible apply W_cond_k; intro _ _ ea eb; (simp only [condK, not_true_eq_false, not_false_eq_true, opnd, constPV, List.getD_cons_zero, List.getD_cons_succ, fr_getD_cons, fr_getD_nil, Nat.reduceEqDiff, Nat.reduceLT, ↓reduceIte, hcb, reduceCtorEq, false_implies, true_implies, forall_const, bne_iff_ne, beq_iff_eq, ne_eq]); subst ea eb; first | (refine ⟨fun hc => ?_, fun hc => ?_⟩ <;> first | (exfalso; omega) | (exfalso; exact hc trivial) | skip) | skip)
    | (with_reducible apply hnx; clear hnx nx)
    | (with_reducible refine And.intro (by omega) ?_)
    | (with_reducible refine And.intro ?_ ?_)
    | (with_reducible refine pcall_k (c1) ?_; rintro _ _ ⟨rfl, rfl⟩ -; refine Ev_in ?_)
    | (clear hnx nx; with_reducible apply hnx; clear hnx nx)
    | (clear hnx nx; clear hnx nx; with_reducible apply hnx; clear hnx nx)
    | (clear hnx nx; clear hnx nx; clear hnx nx; with_reducible apply hnx; clear hnx nx))
  refine W_adopt_f 4 9 1 (by simp only [fr_getD_cons, Nat.reduceEqDiff, Nat.reduceLT, ↓reduceIte]) fun D0 hD0 => ?_
  refine W_loop_k (fun z τ => ∃ (i : Nat) (N : Int) (o : List (List UInt8)), i ≤ sp.length ∧ z = sp.length - i ∧ o = T.take i ∧ τ = ⟨fr 95 [(4, .row N 1 o.length), (2, pbool false), (3, .list 2 (sp.map spv)), (5, pint .i64 i)], [(N, ⟨9, true, 1, o.map pstr⟩)]⟩) sp.length
    ⟨fr 95 [(4, .row D0 1 0), (2, pbool false), (3, .list 2 (sp.map spv)), (5, pint .i64 (0 : Nat))], [(D0, ⟨9, true, 1, []⟩)]⟩ (by
    refine Wk_fr (by simp only [List.forall_mem_cons, List.not_mem_nil, false_implies, implies_true, and_true, true_and, and_self, fr_getD_cons, fr_getD_nil, Nat.reduceEqDiff, Nat.reduceLT, ↓reduceIte, Int.natCast_add, Int.cast_ofNat_Int, Int.natCast_zero]) ?_
    exact ⟨by simp, by simp [names]⟩) ⟨0, D0, [], by omega, by omega, by simp, rfl⟩ ?_
  rintro z τ ⟨i, N, o, hi, rfl, ho, rfl⟩ lp hlp
  have hol : o.length = i := by rw [ho, List.length_take]; omega
  by_cases hik : i < sp.length
  · have c5 := print_c G hG sp[i].1 sp[i].2
    have htk := hTt i hik
    repeat' (first
    | (with_reducible apply W_seq_k; intro nx hnx)
    | with_reducible apply W_block
    | with_reducible apply W_scope
    | (with_reducible refine W_prune 16381 ?_; simp only [prune_cons, prune_nil, Nat.reducePow, Nat.reduceDiv, Nat.reduceMod, Nat.reduceBEq, cond_true, cond_false]; with_reducible apply W_region_l)
    | (with_reducible refine W_prune 16381 ?_; simp only [prune_cons, prune_nil, Nat.reducePow, Nat.reduceDiv, Nat.reduceMod, Nat.reduceBEq, cond_true, cond_false]; with_reducible refine W_region_draw (id := 16) 1 (.op 0 true (.op 1 true (.op 2 true (.op 3 true (.op 4 true (.op 5 true (.op 6 true (.op 7 true (.op 8 true (.op 9 true (.done))))))))))) (by kernel_rfl) ?_)
    | ((first | (with_reducible apply WL_op; intro nx hnx) | with_reducible refine Ev_out ?_ | (with_reducible apply popsD_op; intro nx hnx) | (with_reducible refine popsD_alt ?_ ?_; intro nx hnx) | (with_reducible refine pfresh_k hnm fun nm hnm => ?_; (try simp only [List.forall_mem_cons, List.not_mem_nil, false_implies, implies_true, and_true, true_and, ne_eq] at hnm))); try (simp (maxSteps := 2000000) (disch := omega) only [evb, ↓popG_eq, ↓pop.eq_1, ↓List.getElem?_map, ↓List.getElem?_cons_zero, ↓List.getElem?_cons_succ, pbuiltin, opnd, constPV, PState.put, layFrom, List.set, pnck, seqK, blockK, scopeK, pbin, pun, ppick, plen, pldop, pload, pfaddr, piaddr, pindex, pfield, pslice, pbound, pconv, pelems, pextract, pmm, parr, pbuild, pfill, PV.mem?, PV.one, PV.cells, pageq, peqs, peq1, palloc, pbox, pbuildS, pmakes, pstore, pappend, pcopy, pbytes, pmark, psrc, vcells, Value.oneCell', look, upd, del, names, Nat.reduceAdd, Nat.reduceMul, Nat.reduceSub, Nat.reduceLeDiff, Nat.reduceEqDiff, ↓reduceIte, ne_eq, reduceCtorEq, forall_const, times, Value.cells, exists_and_left, exists_eq_left', eq_self, Nat.reduceLT, Int.reduceLT, Int.reduceLE, Int.reduceToNat, Int.reduceAdd, Int.reduceSub, Int.reduceNeg, hnm, Tryd.tf0, Tryd.tf1, Tryd.tf2, Tryd.tf3, Tryd.tf4, Tryd.tf5, Tryd.tf9, Tryd.tf22, Tryd.tf30, Tryd.teq30, Tryd.tf31, Tryd.tf41, Tryd.tf42, Tryd.tf52, Tryd.tf53, Tryd.tf55, Tryd.teq57, Tryd.tf58, Tryd.teq58, Tryd.teq79, Tryd.teq80, Tryd.teq86, Tryd.teq88, Tryd.teq96, Tryd.teq98, Tryd.call16, Tryd.call17, Tryd.call20, Tryd.call24, Tryd.call33, Tryd.call34, Tryd.call35]); repeat (refine And.intro (by omega) ?_))
    | ((first | with_reducible apply WL_nil | with_reducible apply W_label | with_reducible apply W_skip | with_reducible apply W_exit | with_reducible apply W_ret | with_reducible apply popsD_done); try simp only [seqK, blockK, scopeK, ↓reduceIte, Nat.reduceEqDiff])
    | with_reducible exact popsD_stop
    | (with_reducible apply pguard_intro <;> (intro hc; (try simp only [hcb, reduceCtorEq, false_implies, true_implies, forall_const, bne_iff_ne, beq_iff_eq, ne_eq] at hc); first | (exfalso; omega) | (exfalso; exact hc trivial) | refine Ev_in ?_))
    | (with_reducible apply W_cond_k; intro _ _ ea eb; (simp only [condK, not_true_eq_false, not_false_eq_true, opnd, constPV, List.getD_cons_zero, List.getD_cons_succ, fr_getD_cons, fr_getD_nil, Nat.reduceEqDiff, Nat.reduceLT, ↓reduceIte, hcb, reduceCtorEq, false_implies, true_implies, forall_const, bne_iff_ne, beq_iff_eq, ne_eq]); subst ea eb; first | (refine ⟨fun hc => ?_, fun hc => ?_⟩ <;> first | (exfalso; omega) | (exfalso; exact hc trivial) | skip) | skip)
    | (with_reducible apply hnx; clear hnx nx)
    | (with_reducible refine And.intro (by omega) ?_)
    | (with_reducible refine And.intro ?_ ?_)
    | (with_reducible refine pcall_k (c5) ?_; rintro _ _ ⟨rfl, rfl⟩ -; refine Ev_in ?_)
    | (clear hnx nx; with_reducible apply hnx; clear hnx nx)
    | (clear hnx nx; clear hnx nx; with_reducible apply hnx; clear hnx nx)
    | (clear hnx nx; clear hnx nx; clear hnx nx; with_reducible apply hnx; clear hnx nx))
    all_goals first
      | (exfalso
         omega)
      | (refine hlp _ (sp.length - (i + 1)) _ (by omega) ?_ ⟨i + 1, nm, o ++ [printP sp[i].1 sp[i].2], by omega, rfl, by rw [htk, ho], rfl⟩
         rw [List.length_append, List.map_append]
         refine Wk_fr (by simp only [List.forall_mem_cons, List.not_mem_nil, false_implies, implies_true, and_true, true_and, and_self, fr_getD_cons, fr_getD_nil, Nat.reduceEqDiff, Nat.reduceLT, ↓reduceIte, Int.natCast_add, Int.cast_ofNat_Int, Int.natCast_zero, List.length_cons, List.length_nil, Nat.zero_add]) ?_
         exact ⟨by simp, by simp [names]⟩)
  · have hoh : o = T := by rw [ho, List.take_of_length_le (by omega)]
    subst hoh
    clear ho hlp
    have htu : List.take o.length (o.map pstr) = o.map pstr := List.take_of_length_le (by simp)
    refine W_x (τ := ⟨fr 95 [(4, .list 1 (o.map pstr)), (2, pbool false), (3, .list 2 (sp.map spv)), (5, pint .i64 i)], []⟩) (by
      have hw := Wx_bornH (G := G) (I := []) (N := 95) (d := 4) (L := [(2, pbool false), (3, .list 2 (sp.map spv)), (5, pint .i64 i)]) (n := N) (e := 9) (es := 1) (len := o.length) (cells := o.map pstr) (H := []) (by simp) (by simp) (by
        simp [frz, frz1]) (by simp)
      rwa [elemsOf_one (by simp), htu] at hw) ?_
    repeat' (first
    | (with_reducible apply W_seq_k; intro nx hnx)
    | with_reducible apply W_block
    | with_reducible apply W_scope
    | (with_reducible refine W_prune 16381 ?_; simp only [prune_cons, prune_nil, Nat.reducePow, Nat.reduceDiv, Nat.reduceMod, Nat.reduceBEq, cond_true, cond_false]; with_reducible apply W_region_l)
    | (with_reducible refine W_prune 16381 ?_; simp only [prune_cons, prune_nil, Nat.reducePow, Nat.reduceDiv, Nat.reduceMod, Nat.reduceBEq, cond_true, cond_false]; with_reducible refine W_region_draw (id := 16) 1 (.op 0 true (.op 1 true (.op 2 true (.op 3 true (.op 4 true (.op 5 true (.op 6 true (.op 7 true (.op 8 true (.op 9 true (.done))))))))))) (by kernel_rfl) ?_)
    | ((first | (with_reducible apply WL_op; intro nx hnx) | with_reducible refine Ev_out ?_ | (with_reducible apply popsD_op; intro nx hnx) | (with_reducible refine popsD_alt ?_ ?_; intro nx hnx) | (with_reducible refine pfresh_k hnm fun nm hnm => ?_; (try simp only [List.forall_mem_cons, List.not_mem_nil, false_implies, implies_true, and_true, true_and, ne_eq] at hnm))); try (simp (maxSteps := 2000000) (disch := omega) only [evb, ↓popG_eq, ↓pop.eq_1, ↓List.getElem?_map, ↓List.getElem?_cons_zero, ↓List.getElem?_cons_succ, pbuiltin, opnd, constPV, PState.put, layFrom, List.set, pnck, seqK, blockK, scopeK, pbin, pun, ppick, plen, pldop, pload, pfaddr, piaddr, pindex, pfield, pslice, pbound, pconv, pelems, pextract, pmm, parr, pbuild, pfill, PV.mem?, PV.one, PV.cells, pageq, peqs, peq1, palloc, pbox, pbuildS, pmakes, pstore, pappend, pcopy, pbytes, pmark, psrc, vcells, Value.oneCell', look, upd, del, names, Nat.reduceAdd, Nat.reduceMul, Nat.reduceSub, Nat.reduceLeDiff, Nat.reduceEqDiff, ↓reduceIte, ne_eq, reduceCtorEq, forall_const, times, Value.cells, exists_and_left, exists_eq_left', eq_self, Nat.reduceLT, Int.reduceLT, Int.reduceLE, Int.reduceToNat, Int.reduceAdd, Int.reduceSub, Int.reduceNeg, hnm, Tryd.tf0, Tryd.tf1, Tryd.tf2, Tryd.tf3, Tryd.tf4, Tryd.tf5, Tryd.tf9, Tryd.tf22, Tryd.tf30, Tryd.teq30, Tryd.tf31, Tryd.tf41, Tryd.tf42, Tryd.tf52, Tryd.tf53, Tryd.tf55, Tryd.teq57, Tryd.tf58, Tryd.teq58, Tryd.teq79, Tryd.teq80, Tryd.teq86, Tryd.teq88, Tryd.teq96, Tryd.teq98, Tryd.call16, Tryd.call17, Tryd.call20, Tryd.call24, Tryd.call33, Tryd.call34, Tryd.call35, beq_self_eq_true, hTl]); repeat (refine And.intro (by omega) ?_))
    | ((first | with_reducible apply WL_nil | with_reducible apply W_label | with_reducible apply W_skip | with_reducible apply W_exit | with_reducible apply W_ret | with_reducible apply popsD_done); try simp only [seqK, blockK, scopeK, ↓reduceIte, Nat.reduceEqDiff])
    | with_reducible exact popsD_stop
    | (with_reducible apply pguard_intro <;> (intro hc; (try simp only [hcb, reduceCtorEq, false_implies, true_implies, forall_const, bne_iff_ne, beq_iff_eq, ne_eq] at hc); first | (exfalso; omega) | (exfalso; exact hc trivial) | refine Ev_in ?_))
    | (with_reducible apply W_cond_k; intro _ _ ea eb; (simp only [condK, not_true_eq_false, not_false_eq_true, opnd, constPV, List.getD_cons_zero, List.getD_cons_succ, fr_getD_cons, fr_getD_nil, Nat.reduceEqDiff, Nat.reduceLT, ↓reduceIte, hcb, reduceCtorEq, false_implies, true_implies, forall_const, bne_iff_ne, beq_iff_eq, ne_eq]); subst ea eb; first | (refine ⟨fun hc => ?_, fun hc => ?_⟩ <;> first | (exfalso; omega) | (exfalso; exact hc trivial) | skip) | skip)
    | (with_reducible apply hnx; clear hnx nx)
    | (with_reducible refine And.intro (by omega) ?_)
    | (with_reducible refine And.intro ?_ ?_)
    | (with_reducible refine pcall_k (c2) ?_; rintro _ _ ⟨rfl, rfl⟩ -; refine Ev_in ?_)
    | (with_reducible refine pcall_k (c3) ?_; rintro _ _ ⟨rfl, rfl⟩ -; refine Ev_in ?_)
    | (clear hnx nx; with_reducible apply hnx; clear hnx nx)
    | (clear hnx nx; clear hnx nx; with_reducible apply hnx; clear hnx nx)
    | (clear hnx nx; clear hnx nx; clear hnx nx; with_reducible apply hnx; clear hnx nx))
    all_goals first
      | (exfalso
         omega)
      | exact absurd trivial hc
      | skip
    have hnm : True := trivial
    refine W_adopt_f 10 9 1 (by simp only [fr_getD_cons, Nat.reduceEqDiff, Nat.reduceLT, ↓reduceIte]) fun D1 hD1 => ?_
    refine W_loop_k (fun z τ => ∃ (j : Nat) (N : Int) (q : List (List UInt8)), j ≤ o.length ∧ z = o.length - j ∧ q = o.take j ∧ τ = ⟨fr 95 [(10, .row N 1 q.length), (2, pbool false), (3, .list 2 (sp.map spv)), (6, .list 1 (B.map pbyte)), (7, .list 1 (o.map pstr)), (11, pint .i64 j)], [(N, ⟨9, true, 1, q.map pstr⟩)]⟩) o.length
      ⟨fr 95 [(10, .row D1 1 0), (2, pbool false), (3, .list 2 (sp.map spv)), (6, .list 1 (B.map pbyte)), (7, .list 1 (o.map pstr)), (11, pint .i64 (0 : Nat))], [(D1, ⟨9, true, 1, []⟩)]⟩ (by
      refine Wk_fr (by simp only [List.forall_mem_cons, List.not_mem_nil, false_implies, implies_true, and_true, true_and, and_self, fr_getD_cons, fr_getD_nil, Nat.reduceEqDiff, Nat.reduceLT, ↓reduceIte, Int.natCast_add, Int.cast_ofNat_Int, Int.natCast_zero]) ?_
      exact ⟨by simp, by simp [names]⟩) ⟨0, D1, [], by omega, by omega, by simp, rfl⟩ ?_
    clear c3
    rintro z τ ⟨j, N, q, hj, rfl, hq, rfl⟩ lp hlp
    have hql : q.length = j := by rw [hq, List.length_take]; omega
    by_cases hjk : j < o.length
    · have hjs : j < sp.length := by omega
      have c5 := print_c G hG sp[j].1 sp[j].2
      have c6 := parse_c G hG (printP sp[j].1 sp[j].2) (by have := print_le (a := sp[j].1) (b := sp[j].2); omega)
      rw [parse_print (List.all_eq_true.1 hS _ (List.getElem_mem hjs))] at c6
      have htk := hTt j hjs
      have hg := hTg j hjs
      have hg2 : o[j]'hjk = printP sp[j].1 sp[j].2 := by
        rw [List.getElem?_eq_getElem hjk] at hg
        exact Option.some.inj hg
      clear c2 c4 hTg hTt hS
      repeat' (first
    | (with_reducible apply W_seq_k; intro nx hnx)
    | with_reducible apply W_block
    | with_reducible apply W_scope
    | (with_reducible refine W_prune 16381 ?_; simp only [prune_cons, prune_nil, Nat.reducePow, Nat.reduceDiv, Nat.reduceMod, Nat.reduceBEq, cond_true, cond_false]; with_reducible apply W_region_l)
    | (with_reducible refine W_prune 16381 ?_; simp only [prune_cons, prune_nil, Nat.reducePow, Nat.reduceDiv, Nat.reduceMod, Nat.reduceBEq, cond_true, cond_false]; with_reducible refine W_region_draw (id := 16) 1 (.op 0 true (.op 1 true (.op 2 true (.op 3 true (.op 4 true (.op 5 true (.op 6 true (.op 7 true (.op 8 true (.op 9 true (.done))))))))))) (by kernel_rfl) ?_)
    | ((first | (with_reducible apply WL_op; intro nx hnx) | with_reducible refine Ev_out ?_ | (with_reducible apply popsD_op; intro nx hnx) | (with_reducible refine popsD_alt ?_ ?_; intro nx hnx) | (with_reducible refine pfresh_k hnm fun nm hnm => ?_; (try simp only [List.forall_mem_cons, List.not_mem_nil, false_implies, implies_true, and_true, true_and, ne_eq] at hnm))); try (simp (maxSteps := 2000000) (disch := omega) only [evb, ↓popG_eq, ↓pop.eq_1, ↓List.getElem?_map, ↓List.getElem?_cons_zero, ↓List.getElem?_cons_succ, pbuiltin, opnd, constPV, PState.put, layFrom, List.set, pnck, seqK, blockK, scopeK, pbin, pun, ppick, plen, pldop, pload, pfaddr, piaddr, pindex, pfield, pslice, pbound, pconv, pelems, pextract, pmm, parr, pbuild, pfill, PV.mem?, PV.one, PV.cells, pageq, peqs, peq1, palloc, pbox, pbuildS, pmakes, pstore, pappend, pcopy, pbytes, pmark, psrc, vcells, Value.oneCell', look, upd, del, names, Nat.reduceAdd, Nat.reduceMul, Nat.reduceSub, Nat.reduceLeDiff, Nat.reduceEqDiff, ↓reduceIte, ne_eq, reduceCtorEq, forall_const, times, Value.cells, exists_and_left, exists_eq_left', eq_self, Nat.reduceLT, Int.reduceLT, Int.reduceLE, Int.reduceToNat, Int.reduceAdd, Int.reduceSub, Int.reduceNeg, hnm, Tryd.tf0, Tryd.tf1, Tryd.tf2, Tryd.tf3, Tryd.tf4, Tryd.tf5, Tryd.tf9, Tryd.tf22, Tryd.tf30, Tryd.teq30, Tryd.tf31, Tryd.tf41, Tryd.tf42, Tryd.tf52, Tryd.tf53, Tryd.tf55, Tryd.teq57, Tryd.tf58, Tryd.teq58, Tryd.teq79, Tryd.teq80, Tryd.teq86, Tryd.teq88, Tryd.teq96, Tryd.teq98, Tryd.call16, Tryd.call17, Tryd.call20, Tryd.call24, Tryd.call33, Tryd.call34, Tryd.call35, beq_self_eq_true, hg, hg2]); repeat (refine And.intro (by omega) ?_))
    | ((first | with_reducible apply WL_nil | with_reducible apply W_label | with_reducible apply W_skip | with_reducible apply W_exit | with_reducible apply W_ret | with_reducible apply popsD_done); try simp only [seqK, blockK, scopeK, ↓reduceIte, Nat.reduceEqDiff])
    | with_reducible exact popsD_stop
    | (with_reducible apply pguard_intro <;> (intro hc; (try simp only [hcb, reduceCtorEq, false_implies, true_implies, forall_const, bne_iff_ne, beq_iff_eq, ne_eq] at hc); first | (exfalso; omega) | (exfalso; exact hc trivial) | refine Ev_in ?_))
    | (with_reducible apply W_cond_k; intro _ _ ea eb; (simp only [condK, not_true_eq_false, not_false_eq_true, opnd, constPV, List.getD_cons_zero, List.getD_cons_succ, fr_getD_cons, fr_getD_nil, Nat.reduceEqDiff, Nat.reduceLT, ↓reduceIte, hcb, reduceCtorEq, false_implies, true_implies, forall_const, bne_iff_ne, beq_iff_eq, ne_eq]); subst ea eb; first | (refine ⟨fun hc => ?_, fun hc => ?_⟩ <;> first | (exfalso; omega) | (exfalso; exact hc trivial) | skip) | skip)
    | (with_reducible apply hnx; clear hnx nx)
    | (with_reducible refine And.intro (by omega) ?_)
    | (with_reducible refine And.intro ?_ ?_)
    | (with_reducible refine pcall_k (c5) ?_; rintro _ _ ⟨rfl, rfl⟩ -; refine Ev_in ?_)
    | (with_reducible refine pcall_k (c6) ?_; rintro _ _ ⟨rfl, rfl⟩ -; refine Ev_in ?_)
    | (clear hnx nx; with_reducible apply hnx; clear hnx nx)
    | (clear hnx nx; clear hnx nx; with_reducible apply hnx; clear hnx nx)
    | (clear hnx nx; clear hnx nx; clear hnx nx; with_reducible apply hnx; clear hnx nx))
      all_goals first
        | (exfalso
           omega)
        | exact absurd trivial hc
        | (refine hlp _ (o.length - (j + 1)) _ (by omega) ?_ ⟨j + 1, nm, q ++ [printP sp[j].1 sp[j].2], by omega, rfl, by rw [htk, hq], rfl⟩
           rw [List.length_append, List.map_append]
           refine Wk_fr (by simp only [List.forall_mem_cons, List.not_mem_nil, false_implies, implies_true, and_true, true_and, and_self, fr_getD_cons, fr_getD_nil, Nat.reduceEqDiff, Nat.reduceLT, ↓reduceIte, Int.natCast_add, Int.cast_ofNat_Int, Int.natCast_zero, List.length_cons, List.length_nil, Nat.zero_add]) ?_
           exact ⟨by simp, by simp [names]⟩)
    · have hqo : q = o := by rw [hq, List.take_of_length_le (by omega)]
      subst hqo
      clear hq hlp hTg hTt hS
      refine W_x (τ := ⟨fr 95 [(10, .list 1 (q.map pstr)), (2, pbool false), (3, .list 2 (sp.map spv)), (6, .list 1 (B.map pbyte)), (7, .list 1 (q.map pstr)), (11, pint .i64 j)], []⟩) (by
        have hw := Wx_bornH (G := G) (I := []) (N := 95) (d := 10) (L := [(2, pbool false), (3, .list 2 (sp.map spv)), (6, .list 1 (B.map pbyte)), (7, .list 1 (q.map pstr)), (11, pint .i64 j)]) (n := N) (e := 9) (es := 1) (len := q.length) (cells := q.map pstr) (H := []) (by simp) (by simp) (by
          simp [frz, frz1]) (by simp)
        rwa [elemsOf_one (by simp), htu] at hw) ?_
      repeat' (first
    | (with_reducible apply W_seq_k; intro nx hnx)
    | with_reducible apply W_block
    | with_reducible apply W_scope
    | (with_reducible refine W_prune 16381 ?_; simp only [prune_cons, prune_nil, Nat.reducePow, Nat.reduceDiv, Nat.reduceMod, Nat.reduceBEq, cond_true, cond_false]; with_reducible apply W_region_l)
    | (with_reducible refine W_prune 16381 ?_; simp only [prune_cons, prune_nil, Nat.reducePow, Nat.reduceDiv, Nat.reduceMod, Nat.reduceBEq, cond_true, cond_false]; with_reducible refine W_region_draw (id := 16) 1 (.op 0 true (.op 1 true (.op 2 true (.op 3 true (.op 4 true (.op 5 true (.op 6 true (.op 7 true (.op 8 true (.op 9 true (.done))))))))))) (by kernel_rfl) ?_)
    | (with_reducible refine WL_born (by simp) rfl (by simp) ?_; simp only [elemsOf, nl, List.map_cons, List.map_nil, Nat.reduceEqDiff, ↓reduceIte, List.take_succ_cons, List.take_zero, List.range_succ, List.range_zero, List.nil_append, List.cons_append, List.map_append, List.drop_succ_cons, List.drop_zero, Nat.reduceMul, Nat.zero_mul, Nat.one_mul, Nat.reduceAdd])
    | (with_reducible refine WL_bornH (by simp) (by simp) ?_ ?_ ?_; (· simp [frz, frz1, hnm]); (· simp [frz1, hnm, PV.one, Value.oneCell']); simp only [elemsOf, nl, List.map_cons, List.map_nil, Nat.reduceEqDiff, ↓reduceIte, List.take_succ_cons, List.take_zero, List.range_succ, List.range_zero, List.nil_append, List.cons_append, List.map_append, List.drop_succ_cons, List.drop_zero, Nat.reduceMul, Nat.zero_mul, Nat.one_mul, Nat.reduceAdd])
    | ((first | (with_reducible apply WL_op; intro nx hnx) | with_reducible refine Ev_out ?_ | (with_reducible apply popsD_op; intro nx hnx) | (with_reducible refine popsD_alt ?_ ?_; intro nx hnx) | (with_reducible refine pfresh_k hnm fun nm hnm => ?_; (try simp only [List.forall_mem_cons, List.not_mem_nil, false_implies, implies_true, and_true, true_and, ne_eq] at hnm))); try (simp (maxSteps := 2000000) (disch := omega) only [evb, ↓popG_eq, ↓pop.eq_1, ↓List.getElem?_map, ↓List.getElem?_cons_zero, ↓List.getElem?_cons_succ, pbuiltin, opnd, constPV, PState.put, layFrom, List.set, pnck, seqK, blockK, scopeK, pbin, pun, ppick, plen, pldop, pload, pfaddr, piaddr, pindex, pfield, pslice, pbound, pconv, pelems, pextract, pmm, parr, pbuild, pfill, PV.mem?, PV.one, PV.cells, pageq, peqs, peq1, palloc, pbox, pbuildS, pmakes, pstore, pappend, pcopy, pbytes, pmark, psrc, vcells, Value.oneCell', look, upd, del, names, Nat.reduceAdd, Nat.reduceMul, Nat.reduceSub, Nat.reduceLeDiff, Nat.reduceEqDiff, ↓reduceIte, ne_eq, reduceCtorEq, forall_const, times, Value.cells, exists_and_left, exists_eq_left', eq_self, Nat.reduceLT, Int.reduceLT, Int.reduceLE, Int.reduceToNat, Int.reduceAdd, Int.reduceSub, Int.reduceNeg, hnm, Tryd.tf0, Tryd.tf1, Tryd.tf2, Tryd.tf3, Tryd.tf4, Tryd.tf5, Tryd.tf9, Tryd.tf22, Tryd.tf30, Tryd.teq30, Tryd.tf31, Tryd.tf41, Tryd.tf42, Tryd.tf52, Tryd.tf53, Tryd.tf55, Tryd.teq57, Tryd.tf58, Tryd.teq58, Tryd.teq79, Tryd.teq80, Tryd.teq86, Tryd.teq88, Tryd.teq96, Tryd.teq98, Tryd.call16, Tryd.call17, Tryd.call20, Tryd.call24, Tryd.call33, Tryd.call34, Tryd.call35, beq_self_eq_true, decide_true, hq16, hb1, hb2]); repeat (refine And.intro (by omega) ?_))
    | ((first | with_reducible apply WL_nil | with_reducible apply W_label | with_reducible apply W_skip | with_reducible apply W_exit | with_reducible apply W_ret | with_reducible apply popsD_done); try simp only [seqK, blockK, scopeK, ↓reduceIte, Nat.reduceEqDiff])
    | with_reducible exact popsD_stop
    | (with_reducible apply pguard_intro <;> (intro hc; (try simp only [hcb, reduceCtorEq, false_implies, true_implies, forall_const, bne_iff_ne, beq_iff_eq, ne_eq] at hc); first | (exfalso; omega) | (exfalso; exact hc trivial) | refine Ev_in ?_))
    | (with_reducible apply W_cond_k; intro _ _ ea eb; (simp only [condK, not_true_eq_false, not_false_eq_true, opnd, constPV, List.getD_cons_zero, List.getD_cons_succ, fr_getD_cons, fr_getD_nil, Nat.reduceEqDiff, Nat.reduceLT, ↓reduceIte, hcb, reduceCtorEq, false_implies, true_implies, forall_const, bne_iff_ne, beq_iff_eq, ne_eq]); subst ea eb; first | (refine ⟨fun hc => ?_, fun hc => ?_⟩ <;> first | (exfalso; omega) | (exfalso; exact hc trivial) | skip) | skip)
    | (with_reducible apply hnx; clear hnx nx)
    | (with_reducible refine And.intro (by omega) ?_)
    | (with_reducible refine And.intro ?_ ?_)
    | (with_reducible refine pcall_k (c0) ?_; rintro _ _ ⟨rfl, rfl⟩ -; refine Ev_in ?_)
    | (with_reducible refine pcall_k (c2) ?_; rintro _ _ ⟨rfl, rfl⟩ -; refine Ev_in ?_)
    | (with_reducible refine pcall_k (c4) ?_; rintro _ _ ⟨rfl, rfl⟩ -; refine Ev_in ?_)
    | (clear hnx nx; with_reducible apply hnx; clear hnx nx)
    | (clear hnx nx; clear hnx nx; with_reducible apply hnx; clear hnx nx)
    | (clear hnx nx; clear hnx nx; clear hnx nx; with_reducible apply hnx; clear hnx nx))
      all_goals first
        | exact rfl
        | (exfalso
           omega)
        | (refine hfin _ _ (Fin_ret1 rfl (Sub_nil _) ?_); simp only [List.getD_cons_zero, List.getD_cons_succ, fr_getD_cons, fr_getD_nil, Nat.reduceEqDiff, Nat.reduceLT, ↓reduceIte]; first | trivial | exact ⟨rfl, by trivial⟩ | (simp; done) | (simp; omega))
end Go.PM
