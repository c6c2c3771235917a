/- Joined texts (Ay Bb Bc Bi Bj Bk): the machine, the contracts, the laws. Conditions: none but those that each names. -/
import Derived.Test.YthgaoncndnkcmaaDoorJd
set_option linter.unusedSimpArgs false
set_option linter.unusedVariables false
namespace Go.PM
open Go.Proofs
attribute [local irreducible] W PCalls pcall pcallI WL
set_option maxRecDepth 100000
set_option maxHeartbeats 8000000
/-- The letter with the longest text with which s begins, of the first n. -/
def longB (a : List Ltr) (s : List UInt8) : Nat → Option Nat
  | 0 => none
  | n + 1 => if (a.getD n default).text.isPrefixOf s = true ∧ (∀ k, longB a s n = some k → (a.getD k default).text.length < (a.getD n default).text.length) then some n else longB a s n
def longI (a : List Ltr) (s : List UInt8) (n : Nat) : Int := match longB a s n with | some k => k | none => -1
theorem longB_lt {a : List Ltr} {s : List UInt8} {k : Nat} : ∀ {n : Nat}, longB a s n = some k → k < n
  | 0, h => by simp [longB] at h
  | n + 1, h => by
    unfold longB at h
    split at h
    · cases h
      omega
    · have := longB_lt h
      omega
theorem longest_c (G : Globs) (a : List Ltr) (s : List UInt8) (p : Nat) (hp : p ≤ s.length) (hs : s.length ≤ 100000000) (ha : a.length ≤ 100000000) (ht : ∀ x ∈ a, x.text.length ≤ 65536) :
    PCalls Tryd.prog G 35 [ltsP a, pstr s, pn p] [] (fun res H => res = pint .i64 (longI a (s.drop p) a.length) ∧ H = []) := by
  (refine PCalls_f Tryd.func35 rfl Tryd.ntmps35 Tryd.results35 (by simp) fun fin hfin => ?_; have hnm : True := trivial; simp (maxSteps := 2000000) (disch := omega) only [evb, evd, pbuiltin, constPV, pnck, seqK, blockK, scopeK, pbin, pun, ppick, plen, piaddr, pindex, pfield, pslice, pbound, pconv, pelems, pextract, pmm, PV.mem?, PV.one, PV.cells, pageq, peqs, peq1, pmakes, pstore, pbytes, pmark, pusd, pust, psrc, pkey, pnile, pcap, pgrow, List.set, Value.cells, ↓popG_eq, ↓pop.eq_1, ↓List.getElem?_map, ↓List.getElem?_cons_zero, ↓List.getElem?_cons_succ, Value.oneCell', Nat.reduceAdd, Nat.reduceMul, Nat.reduceSub, Nat.reduceLeDiff, Nat.reduceEqDiff, ↓reduceIte, ne_eq, reduceCtorEq, forall_const, exists_and_left, exists_eq_left', eq_self, Nat.reduceLT, Int.reduceLT, Int.reduceLE, Int.reduceToNat, Int.reduceAdd, Int.reduceSub, Int.reduceNeg, hnm, Tryd.tf0, Tryd.tf3, Tryd.tf4, Tryd.tf9, Tryd.tf23, Tryd.tf45, Tryd.teq45, Tryd.teq94, Tryd.teq104, Tryd.teq113, Tryd.teq114])
  repeat' (first
    | (with_reducible apply W_seq_k; intro nx hnx)
    | (with_reducible first | apply W_block | apply W_scope)
    | (with_reducible refine W_prune 967 ?_; simp only [prb, Nat.reducePow, Nat.reduceDiv, Nat.reduceMod, Nat.reduceBEq]; first | (with_reducible apply W_region_l) | with_reducible refine W_region_draw (id := 6) 1 (.op 0 true (.op 1 true (.op 2 true (.op 3 true (.op 4 true (.op 5 true (.op 6 true (.op 7 true (.op 8 true (.op 9 true (.op 10 true (.op 11 true (.op 12 true (.op 13 true (.op 14 true (.op 15 true (.op 16 true (.op 17 true (.op 18 true (.op 19 true (.op 20 true (.op 21 true (.op 22 true (.op 23 true (.op 24 true (.op 25 true (.op 26 true (.op 27 true (.op 28 true (.op 29 true (.op 30 true (.op 31 true (.op 32 true (.op 33 true (.done))))))))))))))))))))))))))))))))))) (by kernel_rfl) ?_)
    | ((first | (with_reducible apply WL_op; intro nx hnx) | with_reducible refine Ev_out ?_ | (with_reducible apply popsD_op; intro nx hnx) | (with_reducible refine popsD_alt ?_ ?_; intro nx hnx)); try (simp (maxSteps := 2000000) (disch := omega) only [evb, evd, pbuiltin, constPV, pnck, seqK, blockK, scopeK, pbin, pun, ppick, plen, piaddr, pindex, pfield, pslice, pbound, pconv, pelems, pextract, pmm, PV.mem?, PV.one, PV.cells, pageq, peqs, peq1, pmakes, pstore, pbytes, pmark, pusd, pust, psrc, pkey, pnile, pcap, pgrow, List.set, Value.cells, ↓popG_eq, ↓pop.eq_1, ↓List.getElem?_map, ↓List.getElem?_cons_zero, ↓List.getElem?_cons_succ, Value.oneCell', Nat.reduceAdd, Nat.reduceMul, Nat.reduceSub, Nat.reduceLeDiff, Nat.reduceEqDiff, ↓reduceIte, ne_eq, reduceCtorEq, forall_const, exists_and_left, exists_eq_left', eq_self, Nat.reduceLT, Int.reduceLT, Int.reduceLE, Int.reduceToNat, Int.reduceAdd, Int.reduceSub, Int.reduceNeg, hnm, Tryd.tf0, Tryd.tf3, Tryd.tf4, Tryd.tf9, Tryd.tf23, Tryd.tf45, Tryd.teq45, Tryd.teq94, Tryd.teq104, Tryd.teq113, Tryd.teq114]); repeat (refine And.intro (by omega) ?_))
    | ((with_reducible first | apply WL_nil | apply W_label | apply W_skip | apply W_exit | apply W_ret | apply popsD_done); try simp only [seqK, blockK, scopeK, ↓reduceIte, Nat.reduceEqDiff])
    | with_reducible exact popsD_stop
    | (with_reducible apply pguard_intro <;> (intro hc; (try simp only [hcb, reduceCtorEq, forall_const, ne_eq] at hc); first | (exfalso; omega) | (exfalso; exact hc trivial) | refine Ev_in ?_))
    | (with_reducible apply W_cond_k; intro _ _ ea eb; (simp only [condK, cob, opnd, constPV, Nat.reduceEqDiff, Nat.reduceLT, ↓reduceIte, hcb, reduceCtorEq, forall_const, ne_eq]); subst ea eb; first | (refine ⟨fun hc => ?_, fun hc => ?_⟩ <;> first | (exfalso; omega) | (exfalso; exact hc trivial) | skip) | skip)
    | (with_reducible apply hnx; clear hnx nx)
    | (with_reducible refine And.intro (by omega) ?_)
    | (with_reducible refine And.intro ?_ ?_)
    | (clear hnx nx; with_reducible apply hnx; clear hnx nx)
    | (clear hnx nx; clear hnx nx; with_reducible apply hnx; clear hnx nx)
    | (clear hnx nx; clear hnx nx; clear hnx nx; with_reducible apply hnx; clear hnx nx))
  refine W_loop_k (fun z τ => ∃ i : Nat, i ≤ a.length ∧ z = a.length - i ∧ τ = ⟨fr 58 [(8, pn i), (7, pint .i64 (longI a (s.drop p) i)), (2, pn p), (1, pstr s), (0, ltsP a)], []⟩) a.length
    ⟨fr 58 [(8, pn 0), (7, .val (.int .i64 (-1))), (2, pn p), (1, pstr s), (0, ltsP a)], []⟩ (by
    exact Wk_fr (by simp only [wkb, Nat.reduceEqDiff, Nat.reduceLT, ↓reduceIte, pn]) (Sub_nil _)) ⟨0, by omega, by omega, rfl⟩ ?_
  rintro z τ ⟨i, hi, rfl, rfl⟩ lp hlp
  by_cases hil : i < a.length
  · have hti := ht a[i] (List.getElem_mem hil)
    have hgi : a[i]? = some a[i] := List.getElem?_eq_getElem hil
    have hstep : longB a (s.drop p) (i + 1) = if a[i].text.isPrefixOf (s.drop p) = true ∧ (∀ k, longB a (s.drop p) i = some k → (a.getD k default).text.length < a[i].text.length) then some i else longB a (s.drop p) i := by
      rw [longB, List.getD_eq_getElem?_getD, hgi]
      rfl
    obtain ⟨t, htx⟩ : ∃ t, t = a[i].text := ⟨_, rfl⟩
    rw [← htx] at hti hstep
    have hpre : (t.isPrefixOf (s.drop p) = true) ↔ (p + t.length ≤ s.length ∧ List.drop p (List.take (p + t.length) s) = t) := by
      rw [List.isPrefixOf_iff_prefix, List.prefix_iff_eq_take, List.drop_take, Nat.add_sub_cancel_left]
      constructor
      · intro h
        refine ⟨?_, h.symm⟩
        have := congrArg List.length h
        rw [List.length_take, List.length_drop] at this
        omega
      · rintro ⟨_, h⟩
        exact h.symm
    have hk0 : ((p : Int) + (t.length : Int)).toNat = p + t.length := by omega
    cases hb : longB a (s.drop p) i with
    | none =>
      have hli : longI a (s.drop p) i = -1 := by rw [longI, hb]
      rw [hli]
      repeat' (first
    | (with_reducible apply W_seq_k; intro nx hnx)
    | (with_reducible first | apply W_block | apply W_scope)
    | (with_reducible refine W_prune 967 ?_; simp only [prb, Nat.reducePow, Nat.reduceDiv, Nat.reduceMod, Nat.reduceBEq]; first | (with_reducible apply W_region_l) | with_reducible refine W_region_draw (id := 6) 1 (.op 0 true (.op 1 true (.op 2 true (.op 3 true (.op 4 true (.op 5 true (.op 6 true (.op 7 true (.op 8 true (.op 9 true (.op 10 true (.op 11 true (.op 12 true (.op 13 true (.op 14 true (.op 15 true (.op 16 true (.op 17 true (.op 18 true (.op 19 true (.op 20 true (.op 21 true (.op 22 true (.op 23 true (.op 24 true (.op 25 true (.op 26 true (.op 27 true (.op 28 true (.op 29 true (.op 30 true (.op 31 true (.op 32 true (.op 33 true (.done))))))))))))))))))))))))))))))))))) (by kernel_rfl) ?_)
    | ((first | (with_reducible apply WL_op; intro nx hnx) | with_reducible refine Ev_out ?_ | (with_reducible apply popsD_op; intro nx hnx) | (with_reducible refine popsD_alt ?_ ?_; intro nx hnx)); try (simp (maxSteps := 2000000) (disch := omega) only [evb, evd, pbuiltin, constPV, pnck, seqK, blockK, scopeK, pbin, pun, ppick, plen, piaddr, pindex, pfield, pslice, pbound, pconv, pelems, pextract, pmm, PV.mem?, PV.one, PV.cells, pageq, peqs, peq1, pmakes, pstore, pbytes, pmark, pusd, pust, psrc, pkey, pnile, pcap, pgrow, List.set, Value.cells, ↓popG_eq, ↓pop.eq_1, ↓List.getElem?_map, ↓List.getElem?_cons_zero, ↓List.getElem?_cons_succ, Value.oneCell', Nat.reduceAdd, Nat.reduceMul, Nat.reduceSub, Nat.reduceLeDiff, Nat.reduceEqDiff, ↓reduceIte, ne_eq, reduceCtorEq, forall_const, exists_and_left, exists_eq_left', eq_self, Nat.reduceLT, Int.reduceLT, Int.reduceLE, Int.reduceToNat, Int.reduceAdd, Int.reduceSub, Int.reduceNeg, hnm, Tryd.tf0, Tryd.tf3, Tryd.tf4, Tryd.tf9, Tryd.tf23, Tryd.tf45, Tryd.teq45, Tryd.teq94, Tryd.teq104, Tryd.teq113, Tryd.teq114, hgi, ← htx, hk0]); repeat (refine And.intro (by omega) ?_))
    | ((with_reducible first | apply WL_nil | apply W_label | apply W_skip | apply W_exit | apply W_ret | apply popsD_done); try simp only [seqK, blockK, scopeK, ↓reduceIte, Nat.reduceEqDiff])
    | with_reducible exact popsD_stop
    | (with_reducible apply pguard_intro <;> (intro hc; (try simp only [hcb, reduceCtorEq, forall_const, ne_eq] at hc); first | (exfalso; omega) | (exfalso; exact hc trivial) | refine Ev_in ?_))
    | (with_reducible apply W_cond_k; intro _ _ ea eb; (simp only [condK, cob, opnd, constPV, Nat.reduceEqDiff, Nat.reduceLT, ↓reduceIte, hcb, reduceCtorEq, forall_const, ne_eq]); subst ea eb; first | (refine ⟨fun hc => ?_, fun hc => ?_⟩ <;> first | (exfalso; omega) | (exfalso; exact hc trivial) | skip) | skip)
    | (with_reducible apply hnx; clear hnx nx)
    | (with_reducible refine And.intro (by omega) ?_)
    | (with_reducible refine And.intro ?_ ?_)
    | (clear hnx nx; with_reducible apply hnx; clear hnx nx)
    | (clear hnx nx; clear hnx nx; with_reducible apply hnx; clear hnx nx)
    | (clear hnx nx; clear hnx nx; clear hnx nx; with_reducible apply hnx; clear hnx nx))
      all_goals first | exact absurd trivial hc | contradiction | exact fun h => False.elim h | (exfalso; omega) | (exfalso; have hc := of_decide_eq_false hc; omega) | (exfalso; simp only [Bool.not_false, Bool.not_true, decide_eq_true_eq, decide_eq_false_iff_not] at *; omega) | skip
      all_goals first
        | (have e : longI a (s.drop p) (i + 1) = i := by
             unfold longI
             rw [hstep, if_pos ⟨hpre.2 ⟨by omega, by assumption⟩, fun k' h => by rw [hb] at h; cases h⟩]
           refine hlp _ (a.length - (i + 1)) ⟨fr 58 [(8, pn (i + 1)), (7, pint .i64 (longI a (s.drop p) (i + 1))), (2, pn p), (1, pstr s), (0, ltsP a)], []⟩ (by omega) ?_ ⟨i + 1, by omega, rfl, rfl⟩
           rw [e]
           exact Wk_fr (by simp only [wkb, Nat.reduceEqDiff, Nat.reduceLT, ↓reduceIte, pn]) (Sub_nil _))
        | (have e : longI a (s.drop p) (i + 1) = longI a (s.drop p) i := by
             unfold longI
             rw [hstep, if_neg]
             rintro ⟨q1, q2⟩
             obtain ⟨q3, q4⟩ := hpre.1 q1
             first
               | omega
               | contradiction
               | (skip)
           refine hlp _ (a.length - (i + 1)) ⟨fr 58 [(8, pn (i + 1)), (7, pint .i64 (longI a (s.drop p) (i + 1))), (2, pn p), (1, pstr s), (0, ltsP a)], []⟩ (by omega) ?_ ⟨i + 1, by omega, rfl, rfl⟩
           rw [e, hli]
           exact Wk_fr (by simp only [wkb, Nat.reduceEqDiff, Nat.reduceLT, ↓reduceIte, pn]) (Sub_nil _))
    | some k =>
      have hki := longB_lt hb
      have hli : longI a (s.drop p) i = k := by rw [longI, hb]
      have hgk : a[k]? = some a[k] := List.getElem?_eq_getElem (by omega)
      have hkx : (a.getD k default) = a[k] := by rw [List.getD_eq_getElem?_getD, hgk]; rfl
      have htk := ht a[k] (List.getElem_mem (by omega))
      rw [hli]
      repeat' (first
    | (with_reducible apply W_seq_k; intro nx hnx)
    | (with_reducible first | apply W_block | apply W_scope)
    | (with_reducible refine W_prune 967 ?_; simp only [prb, Nat.reducePow, Nat.reduceDiv, Nat.reduceMod, Nat.reduceBEq]; first | (with_reducible apply W_region_l) | with_reducible refine W_region_draw (id := 6) 1 (.op 0 true (.op 1 true (.op 2 true (.op 3 true (.op 4 true (.op 5 true (.op 6 true (.op 7 true (.op 8 true (.op 9 true (.op 10 true (.op 11 true (.op 12 true (.op 13 true (.op 14 true (.op 15 true (.op 16 true (.op 17 true (.op 18 true (.op 19 true (.op 20 true (.op 21 true (.op 22 true (.op 23 true (.op 24 true (.op 25 true (.op 26 true (.op 27 true (.op 28 true (.op 29 true (.op 30 true (.op 31 true (.op 32 true (.op 33 true (.done))))))))))))))))))))))))))))))))))) (by kernel_rfl) ?_)
    | ((first | (with_reducible apply WL_op; intro nx hnx) | with_reducible refine Ev_out ?_ | (with_reducible apply popsD_op; intro nx hnx) | (with_reducible refine popsD_alt ?_ ?_; intro nx hnx)); try (simp (maxSteps := 2000000) (disch := omega) only [evb, evd, pbuiltin, constPV, pnck, seqK, blockK, scopeK, pbin, pun, ppick, plen, piaddr, pindex, pfield, pslice, pbound, pconv, pelems, pextract, pmm, PV.mem?, PV.one, PV.cells, pageq, peqs, peq1, pmakes, pstore, pbytes, pmark, pusd, pust, psrc, pkey, pnile, pcap, pgrow, List.set, Value.cells, ↓popG_eq, ↓pop.eq_1, ↓List.getElem?_map, ↓List.getElem?_cons_zero, ↓List.getElem?_cons_succ, Value.oneCell', Nat.reduceAdd, Nat.reduceMul, Nat.reduceSub, Nat.reduceLeDiff, Nat.reduceEqDiff, ↓reduceIte, ne_eq, reduceCtorEq, forall_const, exists_and_left, exists_eq_left', eq_self, Nat.reduceLT, Int.reduceLT, Int.reduceLE, Int.reduceToNat, Int.reduceAdd, Int.reduceSub, Int.reduceNeg, hnm, Tryd.tf0, Tryd.tf3, Tryd.tf4, Tryd.tf9, Tryd.tf23, Tryd.tf45, Tryd.teq45, Tryd.teq94, Tryd.teq104, Tryd.teq113, Tryd.teq114, hgi, ← htx, hk0, hgk]); repeat (refine And.intro (by omega) ?_))
    | ((with_reducible first | apply WL_nil | apply W_label | apply W_skip | apply W_exit | apply W_ret | apply popsD_done); try simp only [seqK, blockK, scopeK, ↓reduceIte, Nat.reduceEqDiff])
    | with_reducible exact popsD_stop
    | (with_reducible apply pguard_intro <;> (intro hc; (try simp only [hcb, reduceCtorEq, forall_const, ne_eq] at hc); first | (exfalso; omega) | (exfalso; exact hc trivial) | refine Ev_in ?_))
    | (with_reducible apply W_cond_k; intro _ _ ea eb; (simp only [condK, cob, opnd, constPV, Nat.reduceEqDiff, Nat.reduceLT, ↓reduceIte, hcb, reduceCtorEq, forall_const, ne_eq]); subst ea eb; first | (refine ⟨fun hc => ?_, fun hc => ?_⟩ <;> first | (exfalso; omega) | (exfalso; exact hc trivial) | skip) | skip)
    | (with_reducible apply hnx; clear hnx nx)
    | (with_reducible refine And.intro (by omega) ?_)
    | (with_reducible refine And.intro ?_ ?_)
    | (clear hnx nx; with_reducible apply hnx; clear hnx nx)
    | (clear hnx nx; clear hnx nx; with_reducible apply hnx; clear hnx nx)
    | (clear hnx nx; clear hnx nx; clear hnx nx; with_reducible apply hnx; clear hnx nx))
      all_goals first | exact absurd trivial hc | contradiction | exact fun h => False.elim h | (exfalso; omega) | (exfalso; have hc := of_decide_eq_false hc; omega) | (exfalso; simp only [Bool.not_false, Bool.not_true, decide_eq_true_eq, decide_eq_false_iff_not] at *; omega) | skip
      all_goals first
        | (have e : longI a (s.drop p) (i + 1) = i := by
             unfold longI
             rw [hstep, if_pos ⟨hpre.2 ⟨by omega, by assumption⟩, fun k' h => by rw [hb] at h; cases h; rw [hkx]; omega⟩]
           refine hlp _ (a.length - (i + 1)) ⟨fr 58 [(8, pn (i + 1)), (7, pint .i64 (longI a (s.drop p) (i + 1))), (2, pn p), (1, pstr s), (0, ltsP a)], []⟩ (by omega) ?_ ⟨i + 1, by omega, rfl, rfl⟩
           rw [e]
           exact Wk_fr (by simp only [wkb, Nat.reduceEqDiff, Nat.reduceLT, ↓reduceIte, pn]) (Sub_nil _))
        | (have e : longI a (s.drop p) (i + 1) = longI a (s.drop p) i := by
             unfold longI
             rw [hstep, if_neg]
             rintro ⟨q1, q2⟩
             obtain ⟨q3, q4⟩ := hpre.1 q1
             first
               | omega
               | contradiction
               | (have q5 := q2 _ hb; rw [hkx] at q5; omega)
           refine hlp _ (a.length - (i + 1)) ⟨fr 58 [(8, pn (i + 1)), (7, pint .i64 (longI a (s.drop p) (i + 1))), (2, pn p), (1, pstr s), (0, ltsP a)], []⟩ (by omega) ?_ ⟨i + 1, by omega, rfl, rfl⟩
           rw [e, hli]
           exact Wk_fr (by simp only [wkb, Nat.reduceEqDiff, Nat.reduceLT, ↓reduceIte, pn]) (Sub_nil _))
  · have hi2 : i = a.length := by omega
    subst hi2
    repeat' (first
    | (with_reducible apply W_seq_k; intro nx hnx)
    | (with_reducible first | apply W_block | apply W_scope)
    | (with_reducible refine W_prune 967 ?_; simp only [prb, Nat.reducePow, Nat.reduceDiv, Nat.reduceMod, Nat.reduceBEq]; first | (with_reducible apply W_region_l) | with_reducible refine W_region_draw (id := 6) 1 (.op 0 true (.op 1 true (.op 2 true (.op 3 true (.op 4 true (.op 5 true (.op 6 true (.op 7 true (.op 8 true (.op 9 true (.op 10 true (.op 11 true (.op 12 true (.op 13 true (.op 14 true (.op 15 true (.op 16 true (.op 17 true (.op 18 true (.op 19 true (.op 20 true (.op 21 true (.op 22 true (.op 23 true (.op 24 true (.op 25 true (.op 26 true (.op 27 true (.op 28 true (.op 29 true (.op 30 true (.op 31 true (.op 32 true (.op 33 true (.done))))))))))))))))))))))))))))))))))) (by kernel_rfl) ?_)
    | ((first | (with_reducible apply WL_op; intro nx hnx) | with_reducible refine Ev_out ?_ | (with_reducible apply popsD_op; intro nx hnx) | (with_reducible refine popsD_alt ?_ ?_; intro nx hnx)); try (simp (maxSteps := 2000000) (disch := omega) only [evb, evd, pbuiltin, constPV, pnck, seqK, blockK, scopeK, pbin, pun, ppick, plen, piaddr, pindex, pfield, pslice, pbound, pconv, pelems, pextract, pmm, PV.mem?, PV.one, PV.cells, pageq, peqs, peq1, pmakes, pstore, pbytes, pmark, pusd, pust, psrc, pkey, pnile, pcap, pgrow, List.set, Value.cells, ↓popG_eq, ↓pop.eq_1, ↓List.getElem?_map, ↓List.getElem?_cons_zero, ↓List.getElem?_cons_succ, Value.oneCell', Nat.reduceAdd, Nat.reduceMul, Nat.reduceSub, Nat.reduceLeDiff, Nat.reduceEqDiff, ↓reduceIte, ne_eq, reduceCtorEq, forall_const, exists_and_left, exists_eq_left', eq_self, Nat.reduceLT, Int.reduceLT, Int.reduceLE, Int.reduceToNat, Int.reduceAdd, Int.reduceSub, Int.reduceNeg, hnm, Tryd.tf0, Tryd.tf3, Tryd.tf4, Tryd.tf9, Tryd.tf23, Tryd.tf45, Tryd.teq45, Tryd.teq94, Tryd.teq104, Tryd.teq113, Tryd.teq114]); repeat (refine And.intro (by omega) ?_))
    | ((with_reducible first | apply WL_nil | apply W_label | apply W_skip | apply W_exit | apply W_ret | apply popsD_done); try simp only [seqK, blockK, scopeK, ↓reduceIte, Nat.reduceEqDiff])
    | with_reducible exact popsD_stop
    | (with_reducible apply pguard_intro <;> (intro hc; (try simp only [hcb, reduceCtorEq, forall_const, ne_eq] at hc); first | (exfalso; omega) | (exfalso; exact hc trivial) | refine Ev_in ?_))
    | (with_reducible apply W_cond_k; intro _ _ ea eb; (simp only [condK, cob, opnd, constPV, Nat.reduceEqDiff, Nat.reduceLT, ↓reduceIte, hcb, reduceCtorEq, forall_const, ne_eq]); subst ea eb; first | (refine ⟨fun hc => ?_, fun hc => ?_⟩ <;> first | (exfalso; omega) | (exfalso; exact hc trivial) | skip) | skip)
    | (with_reducible apply hnx; clear hnx nx)
    | (with_reducible refine And.intro (by omega) ?_)
    | (with_reducible refine And.intro ?_ ?_)
    | (clear hnx nx; with_reducible apply hnx; clear hnx nx)
    | (clear hnx nx; clear hnx nx; with_reducible apply hnx; clear hnx nx)
    | (clear hnx nx; clear hnx nx; clear hnx nx; with_reducible apply hnx; clear hnx nx))
    all_goals first | exact absurd trivial hc | contradiction | exact fun h => False.elim h | (exfalso; omega) | (exfalso; have hc := of_decide_eq_false hc; omega) | (exfalso; simp only [Bool.not_false, Bool.not_true, decide_eq_true_eq, decide_eq_false_iff_not] at *; omega) | skip
    all_goals
      (refine hfin _ _ (Fin_ret1 rfl (Sub_nil _) ?_); simp only [List.getD_cons_zero, List.getD_cons_succ, fr_getD_cons, fr_getD_nil, Nat.reduceEqDiff, Nat.reduceLT, ↓reduceIte]; first | trivial | exact ⟨rfl, by trivial⟩ | (simp; done) | (simp; omega))
end Go.PM

namespace Go.PM
open Go.Proofs
theorem longB_none {a : List Ltr} {s : List UInt8} : ∀ {n : Nat}, longB a s n = none → ∀ j, j < n → (a.getD j default).text.isPrefixOf s = true → False
  | 0, _, j, hj, _ => by omega
  | n + 1, hn, j, hj, hp => by
    unfold longB at hn
    split at hn
    · cases hn
    · rename_i hc
      by_cases hjn : j = n
      · subst hjn
        exact hc ⟨hp, fun k hk => by rw [hn] at hk; cases hk⟩
      · exact longB_none hn j (by omega) hp
theorem longB_some {a : List Ltr} {s : List UInt8} {k : Nat} : ∀ {n : Nat}, longB a s n = some k → (a.getD k default).text.isPrefixOf s = true ∧ ∀ j, j < n → (a.getD j default).text.isPrefixOf s = true → (a.getD j default).text.length ≤ (a.getD k default).text.length
  | 0, h => by simp [longB] at h
  | n + 1, h => by
    unfold longB at h
    split at h
    · rename_i hc
      simp only [Option.some.injEq] at h
      subst h
      refine ⟨hc.1, fun j hj hp => ?_⟩
      by_cases hjn : j = n
      · subst hjn
        exact Nat.le_refl _
      · cases hb : longB a s n with
        | some m =>
          have h1 := (longB_some hb).2 j (by omega) hp
          have h2 := hc.2 m hb
          omega
        | none => exact (longB_none hb j (by omega) hp).elim
    · rename_i hc
      obtain ⟨h1, h2⟩ := longB_some h
      refine ⟨h1, fun j hj hp => ?_⟩
      by_cases hjn : j = n
      · subst hjn
        by_cases hlt : (a.getD k default).text.length < (a.getD j default).text.length
        · exact absurd ⟨hp, fun k' hk' => by rw [h] at hk'; cases hk'; exact hlt⟩ hc
        · omega
      · exact h2 j (by omega) hp
theorem getM_zip : ∀ (ts : List (List UInt8)) (i : Nat) (t : List UInt8), (getM t (ts.zipIdx i) = none → t ∉ ts) ∧ (∀ k, getM t (ts.zipIdx i) = some k → i ≤ k ∧ ts[k - i]? = some t)
  | [], i, t => by simp [getM]
  | x :: r, i, t => by
    obtain ⟨h1, h2⟩ := getM_zip r (i + 1) t
    simp only [List.zipIdx_cons, getM]
    by_cases hx : x = t
    · rw [if_pos hx]
      refine ⟨fun h => (by cases h), fun k h => ?_⟩
      cases h
      simp [hx]
    · rw [if_neg hx]
      refine ⟨fun h => ?_, fun k h => ?_⟩
      · rw [List.mem_cons, not_or]
        exact ⟨fun e => hx e.symm, h1 h⟩
      · obtain ⟨h3, h4⟩ := h2 k h
        refine ⟨by omega, ?_⟩
        rw [show k - i = (k - (i + 1)) + 1 by omega, List.getElem?_cons_succ]
        exact h4
theorem mA_get {a : List Ltr} (hv : validF a = true) (t : List UInt8) : (getM t (mA a) = none → t ∉ texts a) ∧ (∀ k, getM t (mA a) = some k → (texts a)[k]? = some t) := by
  have hn := (validF_iff.1 hv).2.2.2
  have : mA a = (texts a).zipIdx 0 := by
    unfold mA
    rw [growM_nodup _ _ _ hn (by simp)]
    rfl
  rw [this]
  obtain ⟨h1, h2⟩ := getM_zip (texts a) 0 t
  exact ⟨h1, fun k h => (h2 k h).2⟩
theorem hitN_some {a : List Ltr} {s : List UInt8} {i m : Nat} : ∀ {n : Nat}, hitN a s n = some (i, m) → getM (s.take m) (mA a) = some i ∧ ∀ j, m < j → j ≤ n → getM (s.take j) (mA a) = none
  | 0, h => by simp [hitN] at h
  | n + 1, h => by
    unfold hitN at h
    split at h
    · rename_i k hk
      simp only [Option.some.injEq, Prod.mk.injEq] at h
      obtain ⟨rfl, rfl⟩ := h
      exact ⟨hk, fun j h1 h2 => by omega⟩
    · rename_i hk
      obtain ⟨h1, h2⟩ := hitN_some h
      refine ⟨h1, fun j h3 h4 => ?_⟩
      by_cases hj : j = n + 1
      · subst hj
        exact hk
      · exact h2 j h3 (by omega)
theorem hitN_none {a : List Ltr} {s : List UInt8} : ∀ {n : Nat}, hitN a s n = none → ∀ j, 1 ≤ j → j ≤ n → getM (s.take j) (mA a) = none
  | 0, _, j, h1, h2 => by omega
  | n + 1, h, j, h1, h2 => by
    unfold hitN at h
    split at h
    · cases h
    · rename_i hk
      by_cases hj : j = n + 1
      · subst hj
        exact hk
      · exact hitN_none h j h1 (by omega)
theorem texts_get {a : List Ltr} {k : Nat} {t : List UInt8} : (texts a)[k]? = some t → ∃ h : k < a.length, a[k].text = t := by
  intro h
  obtain ⟨h1, h2⟩ := List.getElem?_eq_some_iff.1 h
  have h3 : k < a.length := by simpa [texts] using h1
  refine ⟨h3, ?_⟩
  simpa [texts] using h2
theorem getD_lt {a : List Ltr} {k : Nat} (h : k < a.length) : a.getD k default = a[k] := by
  rw [List.getD_eq_getElem?_getD, List.getElem?_eq_getElem h]
  rfl
/-- What Read meets at the beginning is the letter with the longest text there. -/
theorem hit_long {a : List Ltr} (hv : validF a = true) (s : List UInt8) : (hit a s = none ∧ longB a s a.length = none) ∨ (∃ k n, hit a s = some (k, n) ∧ longB a s a.length = some k ∧ ∃ h : k < a.length, a[k].text = s.take n ∧ a[k].text.length = n ∧ n ≤ s.length) := by
  have hnd := (validF_iff.1 hv).2.2.2
  have pre : ∀ j (hj : j < a.length), a[j].text.isPrefixOf s = true → a[j].text = s.take a[j].text.length ∧ 1 ≤ a[j].text.length ∧ a[j].text.length ≤ min 4 s.length := by
    intro j hj hp
    obtain ⟨h1, h2⟩ := valid_text hv hj
    have h3 := List.isPrefixOf_iff_prefix.1 hp
    have h4 := h3.length_le
    have h5 : 1 ≤ a[j].text.length := List.length_pos_iff.2 h1
    exact ⟨List.prefix_iff_eq_take.1 h3, h5, by omega⟩
  have mem : ∀ j (hj : j < a.length), a[j].text ∈ texts a := fun j hj => List.mem_map.2 ⟨a[j], List.getElem_mem hj, rfl⟩
  cases hb : longB a s a.length with
  | none =>
    refine .inl ⟨?_, rfl⟩
    cases hh : hit a s with
    | none => rfl
    | some x =>
      exfalso
      obtain ⟨i, n⟩ := x
      have hle := hit_le hh
      obtain ⟨h1, h2⟩ := hitN_some (n := min 4 s.length) hh
      obtain ⟨h3, h4⟩ := texts_get ((mA_get hv _).2 i h1)
      refine longB_none hb i h3 ?_
      rw [getD_lt h3, h4, List.isPrefixOf_iff_prefix]
      exact List.take_prefix _ _
  | some k =>
    have hk := longB_lt hb
    obtain ⟨h1, h2⟩ := longB_some hb
    rw [getD_lt hk] at h1 h2
    obtain ⟨p1, p2, p3⟩ := pre k hk h1
    cases hh : hit a s with
    | none =>
      exfalso
      have := hitN_none (n := min 4 s.length) hh _ p2 p3
      rw [← p1] at this
      exact (mA_get hv _).1 this (mem k hk)
    | some x =>
      obtain ⟨i, n⟩ := x
      have hle := hit_le hh
      obtain ⟨q1, q2⟩ := hitN_some (n := min 4 s.length) hh
      obtain ⟨h3, h4⟩ := texts_get ((mA_get hv _).2 i q1)
      have h5 : a[i].text.length = n := by rw [h4, List.length_take]; omega
      have h6 : n ≤ a[k].text.length := by
        have := h2 i h3 (by
          rw [getD_lt h3, h4, List.isPrefixOf_iff_prefix]
          exact List.take_prefix _ _)
        rw [getD_lt h3, h5] at this
        exact this
      have h7 : ¬ n < a[k].text.length := fun hlt => by
        have := q2 _ hlt p3
        rw [← p1] at this
        exact (mA_get hv _).1 this (mem k hk)
      have h8 : a[k].text.length = n := by omega
      have h9 : a[i].text = a[k].text := by rw [h4, p1, h8]
      have h10 : i = k := by
        have e : (texts a)[i]'(by simpa [texts] using h3) = (texts a)[k]'(by simpa [texts] using hk) := by simpa [texts] using h9
        exact (List.getElem_inj hnd).1 e
      subst h10
      exact .inr ⟨i, n, rfl, rfl, h3, h4, h5, hle.2.2⟩
end Go.PM

namespace Go.PM
open Go.Proofs
attribute [local irreducible] W PCalls pcall pcallI WL
set_option maxRecDepth 100000
set_option maxHeartbeats 8000000
theorem HA_text {a : List Ltr} (hv : validF a = true) : ∀ x ∈ a, x.text.length ≤ 65536 := by
  intro x hx
  obtain ⟨j, hj, rfl⟩ := List.mem_iff_getElem.1 hx
  have := (valid_text hv hj).2
  omega
theorem rread_r (G : Globs) (a : List Ltr) (s : List UInt8) (ha : HA a) (hs : s.length ≤ 100000000) : PCalls Tryd.prog G 13 [ltsP a, pstr s] [] (fun res H => ∃ o, res = .tuple [o, pint .i64 (readF a s).2] ∧ CRI (readF a s).1 o H) := by
  have c1 := rvalid_c G a ha
  (refine PCalls_f Tryd.func13 rfl Tryd.ntmps13 Tryd.results13 (by simp) fun fin hfin => ?_; have hnm : True := trivial; simp (maxSteps := 2000000) (disch := omega) only [evb, evd, pbuiltin, constPV, pnck, seqK, blockK, scopeK, pbin, pun, ppick, plen, piaddr, pindex, pfield, pslice, pbound, pconv, pelems, pextract, pmm, PV.mem?, PV.one, PV.cells, pageq, peqs, peq1, pmakes, pstore, pbytes, pmark, pusd, pust, psrc, pkey, pnile, pcap, pgrow, List.set, Value.cells, ↓popG_eq, ↓pop.eq_1, ↓List.getElem?_map, ↓List.getElem?_cons_zero, ↓List.getElem?_cons_succ, Value.oneCell', Nat.reduceAdd, Nat.reduceMul, Nat.reduceSub, Nat.reduceLeDiff, Nat.reduceEqDiff, ↓reduceIte, ne_eq, reduceCtorEq, forall_const, exists_and_left, exists_eq_left', eq_self, Nat.reduceLT, Int.reduceLT, Int.reduceLE, Int.reduceToNat, Int.reduceAdd, Int.reduceSub, Int.reduceNeg, hnm, Tryd.tf0, Tryd.tf1, Tryd.tf3, Tryd.tf4, Tryd.tf9, Tryd.tf22, Tryd.tf23, Tryd.tf45, Tryd.teq45, Tryd.teq94, Tryd.teq104, Tryd.teq113, Tryd.teq114, Tryd.call34, Tryd.call35])
  repeat' (first
    | (with_reducible apply W_seq_k; intro nx hnx)
    | (with_reducible first | apply W_block | apply W_scope)
    | (with_reducible refine W_prune 499 ?_; simp only [prb, Nat.reducePow, Nat.reduceDiv, Nat.reduceMod, Nat.reduceBEq]; with_reducible apply W_region_l)
    | ((first | (with_reducible apply WL_op; intro nx hnx) | with_reducible refine Ev_out ?_ | (with_reducible refine pfresh_k hnm fun nm hnm => ?_; (try simp only [fmb] at hnm)) | (with_reducible refine pborn_mu hnm fun nm hnm => ?_; (try simp only [fmb] at hnm))); try (simp (maxSteps := 2000000) (disch := omega) only [evb, evd, pbuiltin, constPV, pnck, seqK, blockK, scopeK, pbin, pun, ppick, plen, piaddr, pindex, pfield, pslice, pbound, pconv, pelems, pextract, pmm, PV.mem?, PV.one, PV.cells, pageq, peqs, peq1, pmakes, pstore, pbytes, pmark, pusd, pust, psrc, pkey, pnile, pcap, pgrow, List.set, Value.cells, ↓popG_eq, ↓pop.eq_1, ↓List.getElem?_map, ↓List.getElem?_cons_zero, ↓List.getElem?_cons_succ, Value.oneCell', Nat.reduceAdd, Nat.reduceMul, Nat.reduceSub, Nat.reduceLeDiff, Nat.reduceEqDiff, ↓reduceIte, ne_eq, reduceCtorEq, forall_const, exists_and_left, exists_eq_left', eq_self, Nat.reduceLT, Int.reduceLT, Int.reduceLE, Int.reduceToNat, Int.reduceAdd, Int.reduceSub, Int.reduceNeg, hnm, Tryd.tf0, Tryd.tf1, Tryd.tf3, Tryd.tf4, Tryd.tf9, Tryd.tf22, Tryd.tf23, Tryd.tf45, Tryd.teq45, Tryd.teq94, Tryd.teq104, Tryd.teq113, Tryd.teq114, Tryd.call34, Tryd.call35]); repeat (refine And.intro (by omega) ?_))
    | ((with_reducible first | apply WL_nil | apply W_label | apply W_skip | apply W_exit | apply W_ret); try simp only [seqK, blockK, scopeK, ↓reduceIte, Nat.reduceEqDiff])
    | (with_reducible apply W_cond_k; intro _ _ ea eb; (simp only [condK, cob, opnd, constPV, Nat.reduceEqDiff, Nat.reduceLT, ↓reduceIte, hcb, reduceCtorEq, forall_const, ne_eq]); subst ea eb; first | (refine ⟨fun hc => ?_, fun hc => ?_⟩ <;> first | (exfalso; omega) | (exfalso; exact hc trivial) | skip) | skip)
    | (with_reducible apply hnx; clear hnx nx)
    | (with_reducible refine And.intro (by omega) ?_)
    | (with_reducible refine And.intro ?_ ?_)
    | (with_reducible refine pcall_k (c1) ?_; rintro _ _ ⟨rfl, rfl⟩ -; refine Ev_in ?_)
    | (clear hnx nx; with_reducible apply hnx; clear hnx nx)
    | (clear hnx nx; clear hnx nx; with_reducible apply hnx; clear hnx nx)
    | (clear hnx nx; clear hnx nx; clear hnx nx; with_reducible apply hnx; clear hnx nx))
  all_goals first | exact absurd trivial hc | contradiction | exact fun h => False.elim h | (exfalso; omega) | (exfalso; have hc := of_decide_eq_false hc; omega) | (exfalso; simp only [Bool.not_false, Bool.not_true, decide_eq_true_eq, decide_eq_false_iff_not] at *; omega) | skip
  · have hv : validF a = false := by simpa using hc
    refine hfin _ _ (Fin_ret2 rfl rfl (Sub_nil _) ?_); simp only [List.getD_cons_zero, List.getD_cons_succ, fr_getD_cons, fr_getD_nil, Nat.reduceEqDiff, Nat.reduceLT, ↓reduceIte]
    refine ⟨pnil, ?_, .inl ⟨?_, rfl, by trivial⟩⟩ <;> simp [readF, hv]
  have hv : validF a = true := by simpa using hc
  have hal := (validF_iff.1 hv).2.1
  refine W_loop_k (fun z τ => ∃ (p f : Nat) (out : List Int) (o : PV) (HO : Heap), p ≤ s.length ∧ z = s.length - p ∧ s.length - p ≤ f ∧ out.length ≤ p ∧ (readW a s.length s).1 = out ++ (readW a f (s.drop p)).1 ∧ (readW a s.length s).2 = p + (readW a f (s.drop p)).2 ∧ CRI out o HO ∧ τ = ⟨fr 37 [(7, pn p), (6, o), (1, pstr s), (0, ltsP a)], HO⟩) s.length
    ⟨fr 37 [(7, pn 0), (6, pnil), (1, pstr s), (0, ltsP a)], []⟩ (by
    exact Wk_fr (by simp only [wkb, Nat.reduceEqDiff, Nat.reduceLT, ↓reduceIte, pn]) (Sub_nil _)) ⟨0, s.length, [], _, _, by omega, by omega, by omega, by simp, by simp, by simp, .inl ⟨rfl, rfl, rfl⟩, rfl⟩ ?_
  rintro z τ ⟨p, f, out, o, HO, hp, rfl, hf, hol, hr1, hr2, hC, rfl⟩ lp hlp
  refine W_nd fun nd => ?_
  by_cases hps : p < s.length
  · obtain ⟨f', rfl⟩ : ∃ f', f = f' + 1 := ⟨f - 1, by omega⟩
    have cl := longest_c G a s p hp hs (by omega) (HA_text hv)
    rcases hit_long hv (s.drop p) with ⟨hh, hb⟩ | ⟨k, n, hh, hb, hk, h1, h2, h3⟩
    · have hli : longI a (s.drop p) a.length = -1 := by rw [longI, hb]
      rw [hli] at cl
      repeat' (first
    | (with_reducible apply W_seq_k; intro nx hnx)
    | (with_reducible first | apply W_block | apply W_scope)
    | (with_reducible refine W_prune 499 ?_; simp only [prb, Nat.reducePow, Nat.reduceDiv, Nat.reduceMod, Nat.reduceBEq]; with_reducible apply W_region_l)
    | ((first | (with_reducible apply WL_op; intro nx hnx) | with_reducible refine Ev_out ?_ | (with_reducible refine pfresh_k hnm fun nm hnm => ?_; (try simp only [fmb] at hnm)) | (with_reducible refine pborn_mu hnm fun nm hnm => ?_; (try simp only [fmb] at hnm))); try (simp (maxSteps := 2000000) (disch := omega) only [evb, evd, pbuiltin, constPV, pnck, seqK, blockK, scopeK, pbin, pun, ppick, plen, piaddr, pindex, pfield, pslice, pbound, pconv, pelems, pextract, pmm, PV.mem?, PV.one, PV.cells, pageq, peqs, peq1, pmakes, pstore, pbytes, pmark, pusd, pust, psrc, pkey, pnile, pcap, pgrow, List.set, Value.cells, ↓popG_eq, ↓pop.eq_1, ↓List.getElem?_map, ↓List.getElem?_cons_zero, ↓List.getElem?_cons_succ, Value.oneCell', Nat.reduceAdd, Nat.reduceMul, Nat.reduceSub, Nat.reduceLeDiff, Nat.reduceEqDiff, ↓reduceIte, ne_eq, reduceCtorEq, forall_const, exists_and_left, exists_eq_left', eq_self, Nat.reduceLT, Int.reduceLT, Int.reduceLE, Int.reduceToNat, Int.reduceAdd, Int.reduceSub, Int.reduceNeg, hnm, Tryd.tf0, Tryd.tf1, Tryd.tf3, Tryd.tf4, Tryd.tf9, Tryd.tf22, Tryd.tf23, Tryd.tf45, Tryd.teq45, Tryd.teq94, Tryd.teq104, Tryd.teq113, Tryd.teq114, Tryd.call34, Tryd.call35]); repeat (refine And.intro (by omega) ?_))
    | ((with_reducible first | apply WL_nil | apply W_label | apply W_skip | apply W_exit | apply W_ret); try simp only [seqK, blockK, scopeK, ↓reduceIte, Nat.reduceEqDiff])
    | (with_reducible apply W_cond_k; intro _ _ ea eb; (simp only [condK, cob, opnd, constPV, Nat.reduceEqDiff, Nat.reduceLT, ↓reduceIte, hcb, reduceCtorEq, forall_const, ne_eq]); subst ea eb; first | (refine ⟨fun hc => ?_, fun hc => ?_⟩ <;> first | (exfalso; omega) | (exfalso; exact hc trivial) | skip) | skip)
    | (with_reducible apply hnx; clear hnx nx)
    | (with_reducible refine And.intro (by omega) ?_)
    | (with_reducible refine And.intro ?_ ?_)
    | (with_reducible refine pcall_k (cl) ?_; rintro _ _ ⟨rfl, rfl⟩ -; refine Ev_in ?_)
    | (clear hnx nx; with_reducible apply hnx; clear hnx nx)
    | (clear hnx nx; clear hnx nx; with_reducible apply hnx; clear hnx nx)
    | (clear hnx nx; clear hnx nx; clear hnx nx; with_reducible apply hnx; clear hnx nx))
      all_goals first | exact absurd trivial hc | contradiction | exact fun h => False.elim h | (exfalso; omega) | (exfalso; have hc := of_decide_eq_false hc; omega) | (exfalso; simp only [Bool.not_false, Bool.not_true, decide_eq_true_eq, decide_eq_false_iff_not] at *; omega) | skip
      have e : readW a (f' + 1) (s.drop p) = ([], 0) := by
        unfold readW
        rw [hh]
      rw [e] at hr1 hr2
      have e2 : readF a s = (out, (p : Int)) := by
        simp [readF, hv, hr1, hr2, Nat.ne_of_lt hps]
      refine hfin _ _ (Fin_ret2 rfl rfl (H := HO) (Sub_refl nd) ?_)
      simp only [fr_getD_cons, Nat.reduceEqDiff, Nat.reduceLT, ↓reduceIte]
      rw [e2]
      exact ⟨o, rfl, hC⟩
    · have hli : longI a (s.drop p) a.length = k := by rw [longI, hb]
      rw [hli] at cl
      have hgk : a[k]? = some a[k] := List.getElem?_eq_getElem hk
      have hpos := hit_le hh
      rw [List.length_drop] at h3 hpos
      have e : readW a (f' + 1) (s.drop p) = ((k : Int) :: (readW a f' (s.drop (p + n))).1, n + (readW a f' (s.drop (p + n))).2) := by
        rw [readW_hit hh, List.drop_drop]
      rw [e] at hr1 hr2
      have hr1 : (readW a s.length s).1 = (out ++ [(k : Int)]) ++ (readW a f' (s.drop (p + n))).1 := by rw [hr1]; simp
      have hr2 : (readW a s.length s).2 = (p + n) + (readW a f' (s.drop (p + n))).2 := by rw [hr2]; omega
      rcases hC with ⟨rfl, rfl, rfl⟩ | ⟨nn, rfl, rfl⟩
      · repeat' (first
    | (with_reducible apply W_seq_k; intro nx hnx)
    | (with_reducible first | apply W_block | apply W_scope)
    | (with_reducible refine W_prune 499 ?_; simp only [prb, Nat.reducePow, Nat.reduceDiv, Nat.reduceMod, Nat.reduceBEq]; with_reducible apply W_region_l)
    | ((first | (with_reducible apply WL_op; intro nx hnx) | with_reducible refine Ev_out ?_ | (with_reducible refine pfresh_k hnm fun nm hnm => ?_; (try simp only [fmb] at hnm)) | (with_reducible refine pborn_mu hnm fun nm hnm => ?_; (try simp only [fmb] at hnm))); try (simp (maxSteps := 2000000) (disch := omega) only [evb, evd, pbuiltin, constPV, pnck, seqK, blockK, scopeK, pbin, pun, ppick, plen, piaddr, pindex, pfield, pslice, pbound, pconv, pelems, pextract, pmm, PV.mem?, PV.one, PV.cells, pageq, peqs, peq1, pmakes, pstore, pbytes, pmark, pusd, pust, psrc, pkey, pnile, pcap, pgrow, List.set, Value.cells, ↓popG_eq, ↓pop.eq_1, ↓List.getElem?_map, ↓List.getElem?_cons_zero, ↓List.getElem?_cons_succ, Value.oneCell', Nat.reduceAdd, Nat.reduceMul, Nat.reduceSub, Nat.reduceLeDiff, Nat.reduceEqDiff, ↓reduceIte, ne_eq, reduceCtorEq, forall_const, exists_and_left, exists_eq_left', eq_self, Nat.reduceLT, Int.reduceLT, Int.reduceLE, Int.reduceToNat, Int.reduceAdd, Int.reduceSub, Int.reduceNeg, hnm, Tryd.tf0, Tryd.tf1, Tryd.tf3, Tryd.tf4, Tryd.tf9, Tryd.tf22, Tryd.tf23, Tryd.tf45, Tryd.teq45, Tryd.teq94, Tryd.teq104, Tryd.teq113, Tryd.teq114, Tryd.call34, Tryd.call35, hgk, h2]); repeat (refine And.intro (by omega) ?_))
    | ((with_reducible first | apply WL_nil | apply W_label | apply W_skip | apply W_exit | apply W_ret); try simp only [seqK, blockK, scopeK, ↓reduceIte, Nat.reduceEqDiff])
    | (with_reducible apply W_cond_k; intro _ _ ea eb; (simp only [condK, cob, opnd, constPV, Nat.reduceEqDiff, Nat.reduceLT, ↓reduceIte, hcb, reduceCtorEq, forall_const, ne_eq]); subst ea eb; first | (refine ⟨fun hc => ?_, fun hc => ?_⟩ <;> first | (exfalso; omega) | (exfalso; exact hc trivial) | skip) | skip)
    | (with_reducible apply hnx; clear hnx nx)
    | (with_reducible refine And.intro (by omega) ?_)
    | (with_reducible refine And.intro ?_ ?_)
    | (with_reducible refine pcall_k (cl) ?_; rintro _ _ ⟨rfl, rfl⟩ -; refine Ev_in ?_)
    | (clear hnx nx; with_reducible apply hnx; clear hnx nx)
    | (clear hnx nx; clear hnx nx; with_reducible apply hnx; clear hnx nx)
    | (clear hnx nx; clear hnx nx; clear hnx nx; with_reducible apply hnx; clear hnx nx))
        all_goals first | exact absurd trivial hc | contradiction | exact fun h => False.elim h | (exfalso; omega) | (exfalso; have hc := of_decide_eq_false hc; omega) | (exfalso; simp only [Bool.not_false, Bool.not_true, decide_eq_true_eq, decide_eq_false_iff_not] at *; omega) | skip
        refine hlp _ (s.length - (p + n)) ⟨fr 37 [(7, pn (p + n)), (6, .row nm 1 1), (1, pstr s), (0, ltsP a)], [(nm, ⟨3, true, 1, [pn k]⟩)]⟩ (by omega) ?_ ⟨p + n, f', [(k : Int)], _, _, by omega, rfl, by omega, by simp; omega, hr1, hr2, .inr ⟨nm, rfl, rfl⟩, rfl⟩
        refine Wk_fr (by simp only [wkb, Nat.reduceEqDiff, Nat.reduceLT, ↓reduceIte, pn, Int.natCast_add]) ?_
        all_goals
          (try rw [List.map_append])
          refine ⟨fun x hx => ?_, by simp [names, hnm]⟩
          simp only [List.mem_cons, List.not_mem_nil, or_false] at hx ⊢
          first
            | exact hx
            | exact .inl hx
      · repeat' (first
    | (with_reducible apply W_seq_k; intro nx hnx)
    | (with_reducible first | apply W_block | apply W_scope)
    | (with_reducible refine W_prune 499 ?_; simp only [prb, Nat.reducePow, Nat.reduceDiv, Nat.reduceMod, Nat.reduceBEq]; with_reducible apply W_region_l)
    | ((first | (with_reducible apply WL_op; intro nx hnx) | with_reducible refine Ev_out ?_ | (with_reducible refine pfresh_k hnm fun nm hnm => ?_; (try simp only [fmb] at hnm)) | (with_reducible refine pborn_mu hnm fun nm hnm => ?_; (try simp only [fmb] at hnm))); try (simp (maxSteps := 2000000) (disch := omega) only [evb, evd, pbuiltin, constPV, pnck, seqK, blockK, scopeK, pbin, pun, ppick, plen, piaddr, pindex, pfield, pslice, pbound, pconv, pelems, pextract, pmm, PV.mem?, PV.one, PV.cells, pageq, peqs, peq1, pmakes, pstore, pbytes, pmark, pusd, pust, psrc, pkey, pnile, pcap, pgrow, List.set, Value.cells, ↓popG_eq, ↓pop.eq_1, ↓List.getElem?_map, ↓List.getElem?_cons_zero, ↓List.getElem?_cons_succ, Value.oneCell', Nat.reduceAdd, Nat.reduceMul, Nat.reduceSub, Nat.reduceLeDiff, Nat.reduceEqDiff, ↓reduceIte, ne_eq, reduceCtorEq, forall_const, exists_and_left, exists_eq_left', eq_self, Nat.reduceLT, Int.reduceLT, Int.reduceLE, Int.reduceToNat, Int.reduceAdd, Int.reduceSub, Int.reduceNeg, hnm, Tryd.tf0, Tryd.tf1, Tryd.tf3, Tryd.tf4, Tryd.tf9, Tryd.tf22, Tryd.tf23, Tryd.tf45, Tryd.teq45, Tryd.teq94, Tryd.teq104, Tryd.teq113, Tryd.teq114, Tryd.call34, Tryd.call35, hgk, h2]); repeat (refine And.intro (by omega) ?_))
    | ((with_reducible first | apply WL_nil | apply W_label | apply W_skip | apply W_exit | apply W_ret); try simp only [seqK, blockK, scopeK, ↓reduceIte, Nat.reduceEqDiff])
    | (with_reducible apply W_cond_k; intro _ _ ea eb; (simp only [condK, cob, opnd, constPV, Nat.reduceEqDiff, Nat.reduceLT, ↓reduceIte, hcb, reduceCtorEq, forall_const, ne_eq]); subst ea eb; first | (refine ⟨fun hc => ?_, fun hc => ?_⟩ <;> first | (exfalso; omega) | (exfalso; exact hc trivial) | skip) | skip)
    | (with_reducible apply hnx; clear hnx nx)
    | (with_reducible refine And.intro (by omega) ?_)
    | (with_reducible refine And.intro ?_ ?_)
    | (with_reducible refine pcall_k (cl) ?_; rintro _ _ ⟨rfl, rfl⟩ -; refine Ev_in ?_)
    | (clear hnx nx; with_reducible apply hnx; clear hnx nx)
    | (clear hnx nx; clear hnx nx; with_reducible apply hnx; clear hnx nx)
    | (clear hnx nx; clear hnx nx; clear hnx nx; with_reducible apply hnx; clear hnx nx))
        all_goals first | exact absurd trivial hc | contradiction | exact fun h => False.elim h | (exfalso; omega) | (exfalso; have hc := of_decide_eq_false hc; omega) | (exfalso; simp only [Bool.not_false, Bool.not_true, decide_eq_true_eq, decide_eq_false_iff_not] at *; omega) | skip
        have hl1 : (out ++ [(k : Int)]).length = out.length + 1 := by simp
        refine hlp _ (s.length - (p + n)) ⟨fr 37 [(7, pn (p + n)), (6, .row nm 1 (out ++ [(k : Int)]).length), (1, pstr s), (0, ltsP a)], [(nm, ⟨3, true, 1, (out ++ [(k : Int)]).map (pint .i64)⟩)]⟩ (by omega) ?_ ⟨p + n, f', out ++ [(k : Int)], _, _, by omega, rfl, by omega, by simp; omega, hr1, hr2, .inr ⟨nm, rfl, rfl⟩, rfl⟩
        refine Wk_fr (by simp only [wkb, Nat.reduceEqDiff, Nat.reduceLT, ↓reduceIte, pn, Int.natCast_add, hl1]) ?_
        all_goals
          (try rw [List.map_append])
          refine ⟨fun x hx => ?_, by simp [names, hnm]⟩
          simp only [List.mem_cons, List.not_mem_nil, or_false] at hx ⊢
          first
            | exact hx
            | exact .inl hx
  · have hi2 : p = s.length := by omega
    subst hi2
    rw [List.drop_length, readW_nil] at hr1 hr2
    repeat' (first
    | (with_reducible apply W_seq_k; intro nx hnx)
    | (with_reducible first | apply W_block | apply W_scope)
    | (with_reducible refine W_prune 499 ?_; simp only [prb, Nat.reducePow, Nat.reduceDiv, Nat.reduceMod, Nat.reduceBEq]; with_reducible apply W_region_l)
    | ((first | (with_reducible apply WL_op; intro nx hnx) | with_reducible refine Ev_out ?_ | (with_reducible refine pfresh_k hnm fun nm hnm => ?_; (try simp only [fmb] at hnm)) | (with_reducible refine pborn_mu hnm fun nm hnm => ?_; (try simp only [fmb] at hnm))); try (simp (maxSteps := 2000000) (disch := omega) only [evb, evd, pbuiltin, constPV, pnck, seqK, blockK, scopeK, pbin, pun, ppick, plen, piaddr, pindex, pfield, pslice, pbound, pconv, pelems, pextract, pmm, PV.mem?, PV.one, PV.cells, pageq, peqs, peq1, pmakes, pstore, pbytes, pmark, pusd, pust, psrc, pkey, pnile, pcap, pgrow, List.set, Value.cells, ↓popG_eq, ↓pop.eq_1, ↓List.getElem?_map, ↓List.getElem?_cons_zero, ↓List.getElem?_cons_succ, Value.oneCell', Nat.reduceAdd, Nat.reduceMul, Nat.reduceSub, Nat.reduceLeDiff, Nat.reduceEqDiff, ↓reduceIte, ne_eq, reduceCtorEq, forall_const, exists_and_left, exists_eq_left', eq_self, Nat.reduceLT, Int.reduceLT, Int.reduceLE, Int.reduceToNat, Int.reduceAdd, Int.reduceSub, Int.reduceNeg, hnm, Tryd.tf0, Tryd.tf1, Tryd.tf3, Tryd.tf4, Tryd.tf9, Tryd.tf22, Tryd.tf23, Tryd.tf45, Tryd.teq45, Tryd.teq94, Tryd.teq104, Tryd.teq113, Tryd.teq114, Tryd.call34, Tryd.call35]); repeat (refine And.intro (by omega) ?_))
    | ((with_reducible first | apply WL_nil | apply W_label | apply W_skip | apply W_exit | apply W_ret); try simp only [seqK, blockK, scopeK, ↓reduceIte, Nat.reduceEqDiff])
    | (with_reducible apply W_cond_k; intro _ _ ea eb; (simp only [condK, cob, opnd, constPV, Nat.reduceEqDiff, Nat.reduceLT, ↓reduceIte, hcb, reduceCtorEq, forall_const, ne_eq]); subst ea eb; first | (refine ⟨fun hc => ?_, fun hc => ?_⟩ <;> first | (exfalso; omega) | (exfalso; exact hc trivial) | skip) | skip)
    | (with_reducible apply hnx; clear hnx nx)
    | (with_reducible refine And.intro (by omega) ?_)
    | (with_reducible refine And.intro ?_ ?_)
    | (clear hnx nx; with_reducible apply hnx; clear hnx nx)
    | (clear hnx nx; clear hnx nx; with_reducible apply hnx; clear hnx nx)
    | (clear hnx nx; clear hnx nx; clear hnx nx; with_reducible apply hnx; clear hnx nx))
    all_goals first | exact absurd trivial hc | contradiction | exact fun h => False.elim h | (exfalso; omega) | (exfalso; have hc := of_decide_eq_false hc; omega) | (exfalso; simp only [Bool.not_false, Bool.not_true, decide_eq_true_eq, decide_eq_false_iff_not] at *; omega) | skip
    have e2 : readF a s = (out, -1) := by
      simp only [List.append_nil, Nat.add_zero] at hr1 hr2
      simp [readF, hv, hr1, hr2]
    refine hfin _ _ (Fin_ret2 rfl rfl (H := HO) (Sub_refl nd) ?_)
    simp only [fr_getD_cons, Nat.reduceEqDiff, Nat.reduceLT, ↓reduceIte]
    rw [e2]
    exact ⟨o, rfl, hC⟩
theorem rread_f (G : Globs) (a : List Ltr) (s : List UInt8) (ha : HA a) (hs : s.length ≤ 100000000) : PCalls Tryd.prog G 13 [ltsP a, pstr s] [] (fun res H => res = .tuple [wP (readF a s).1, pint .i64 (readF a s).2] ∧ H = []) := CRI.frz2 (rread_r G a s ha hs)
theorem rsafe_c (G : Globs) (a : List Ltr) (w : List Int) (ha : HA a) (hw : w.length ≤ 10000000) : PCalls Tryd.prog G 26 [ltsP a, wP w] [] (fun res H => res = pbool (safeF a w) ∧ H = []) := by
  have h1 := writeF_len (a := a) (w := w)
  have c1 := rwrite_c G a w ha (by omega)
  have c2 := rread_f G a (writeF a w).1 ha (by omega)
  have h2 := readF_len (a := a) (s := (writeF a w).1)
  have c3 := sameInts_c G (readF a (writeF a w).1).1 w (by omega)
  unfold safeF
  generalize readF a (writeF a w).1 = q at *
  generalize writeF a w = p at *
  by_cases hp : p.2 = 0
  · by_cases hq : q.2 = -1
    · (refine PCalls_f Tryd.func26 rfl Tryd.ntmps26 Tryd.results26 (by simp) fun fin hfin => ?_; have hnm : True := trivial; simp (maxSteps := 2000000) (disch := omega) only [evb, evd, pbuiltin, constPV, pnck, seqK, blockK, scopeK, pbin, pun, ppick, plen, piaddr, pindex, pfield, pslice, pbound, pconv, pelems, pextract, pmm, PV.mem?, PV.one, PV.cells, pageq, peqs, peq1, pmakes, pstore, pbytes, pmark, pusd, pust, psrc, pkey, pnile, pcap, pgrow, List.set, Value.cells, ↓popG_eq, ↓pop.eq_1, ↓List.getElem?_map, ↓List.getElem?_cons_zero, ↓List.getElem?_cons_succ, Value.oneCell', Nat.reduceAdd, Nat.reduceMul, Nat.reduceSub, Nat.reduceLeDiff, Nat.reduceEqDiff, ↓reduceIte, ne_eq, reduceCtorEq, forall_const, exists_and_left, exists_eq_left', eq_self, Nat.reduceLT, Int.reduceLT, Int.reduceLE, Int.reduceToNat, Int.reduceAdd, Int.reduceSub, Int.reduceNeg, hnm, Tryd.tf0, Tryd.tf1, Tryd.tf3, Tryd.tf4, Tryd.tf9, Tryd.tf22, Tryd.tf23, Tryd.tf28, Tryd.tf36, Tryd.tf42, Tryd.tf45, Tryd.teq45, Tryd.teq94, Tryd.teq104, Tryd.teq113, Tryd.teq114, Tryd.call13, Tryd.call14, Tryd.call24])
      repeat' (first
    | (with_reducible apply W_seq_k; intro nx hnx)
    | (with_reducible first | apply W_block | apply W_scope)
    | (with_reducible refine W_prune 499 ?_; simp only [prb, Nat.reducePow, Nat.reduceDiv, Nat.reduceMod, Nat.reduceBEq]; with_reducible apply W_region_l)
    | ((first | (with_reducible apply WL_op; intro nx hnx) | with_reducible refine Ev_out ?_); try (simp (maxSteps := 2000000) (disch := omega) only [evb, evd, pbuiltin, constPV, pnck, seqK, blockK, scopeK, pbin, pun, ppick, plen, piaddr, pindex, pfield, pslice, pbound, pconv, pelems, pextract, pmm, PV.mem?, PV.one, PV.cells, pageq, peqs, peq1, pmakes, pstore, pbytes, pmark, pusd, pust, psrc, pkey, pnile, pcap, pgrow, List.set, Value.cells, ↓popG_eq, ↓pop.eq_1, ↓List.getElem?_map, ↓List.getElem?_cons_zero, ↓List.getElem?_cons_succ, Value.oneCell', Nat.reduceAdd, Nat.reduceMul, Nat.reduceSub, Nat.reduceLeDiff, Nat.reduceEqDiff, ↓reduceIte, ne_eq, reduceCtorEq, forall_const, exists_and_left, exists_eq_left', eq_self, Nat.reduceLT, Int.reduceLT, Int.reduceLE, Int.reduceToNat, Int.reduceAdd, Int.reduceSub, Int.reduceNeg, hnm, Tryd.tf0, Tryd.tf1, Tryd.tf3, Tryd.tf4, Tryd.tf9, Tryd.tf22, Tryd.tf23, Tryd.tf28, Tryd.tf36, Tryd.tf42, Tryd.tf45, Tryd.teq45, Tryd.teq94, Tryd.teq104, Tryd.teq113, Tryd.teq114, Tryd.call13, Tryd.call14, Tryd.call24, hp, hq]); repeat (refine And.intro (by omega) ?_))
    | ((with_reducible first | apply WL_nil | apply W_label | apply W_skip | apply W_exit | apply W_ret); try simp only [seqK, blockK, scopeK, ↓reduceIte, Nat.reduceEqDiff])
    | (with_reducible apply pguard_intro <;> (intro hc; (try simp only [hcb, reduceCtorEq, forall_const, ne_eq] at hc); first | (exfalso; omega) | (exfalso; exact hc trivial) | refine Ev_in ?_))
    | (with_reducible apply W_cond_k; intro _ _ ea eb; (simp only [condK, cob, opnd, constPV, Nat.reduceEqDiff, Nat.reduceLT, ↓reduceIte, hcb, reduceCtorEq, forall_const, ne_eq]); subst ea eb; first | (refine ⟨fun hc => ?_, fun hc => ?_⟩ <;> first | (exfalso; omega) | (exfalso; exact hc trivial) | skip) | skip)
    | (with_reducible apply hnx; clear hnx nx)
    | (with_reducible refine And.intro (by omega) ?_)
    | (with_reducible refine And.intro ?_ ?_)
    | (with_reducible refine pcall_k (c1) ?_; rintro _ _ ⟨rfl, rfl⟩ -; refine Ev_in ?_)
    | (with_reducible refine pcall_k (c2) ?_; rintro _ _ ⟨rfl, rfl⟩ -; refine Ev_in ?_)
    | (with_reducible refine pcall_k (c3) ?_; rintro _ _ ⟨rfl, rfl⟩ -; refine Ev_in ?_)
    | (clear hnx nx; with_reducible apply hnx; clear hnx nx)
    | (clear hnx nx; clear hnx nx; with_reducible apply hnx; clear hnx nx)
    | (clear hnx nx; clear hnx nx; clear hnx nx; with_reducible apply hnx; clear hnx nx))
      all_goals first | exact absurd trivial hc | contradiction | exact fun h => False.elim h | (exfalso; omega) | (exfalso; have hc := of_decide_eq_false hc; omega) | (exfalso; simp only [Bool.not_false, Bool.not_true, decide_eq_true_eq, decide_eq_false_iff_not] at *; omega) | skip
      all_goals
        refine hfin _ _ (Fin_ret1 rfl (Sub_nil _) ?_); simp only [List.getD_cons_zero, List.getD_cons_succ, fr_getD_cons, fr_getD_nil, Nat.reduceEqDiff, Nat.reduceLT, ↓reduceIte]
        exact ⟨by simp [hp, hq], by trivial⟩
    · (refine PCalls_f Tryd.func26 rfl Tryd.ntmps26 Tryd.results26 (by simp) fun fin hfin => ?_; have hnm : True := trivial; simp (maxSteps := 2000000) (disch := omega) only [evb, evd, pbuiltin, constPV, pnck, seqK, blockK, scopeK, pbin, pun, ppick, plen, piaddr, pindex, pfield, pslice, pbound, pconv, pelems, pextract, pmm, PV.mem?, PV.one, PV.cells, pageq, peqs, peq1, pmakes, pstore, pbytes, pmark, pusd, pust, psrc, pkey, pnile, pcap, pgrow, List.set, Value.cells, ↓popG_eq, ↓pop.eq_1, ↓List.getElem?_map, ↓List.getElem?_cons_zero, ↓List.getElem?_cons_succ, Value.oneCell', Nat.reduceAdd, Nat.reduceMul, Nat.reduceSub, Nat.reduceLeDiff, Nat.reduceEqDiff, ↓reduceIte, ne_eq, reduceCtorEq, forall_const, exists_and_left, exists_eq_left', eq_self, Nat.reduceLT, Int.reduceLT, Int.reduceLE, Int.reduceToNat, Int.reduceAdd, Int.reduceSub, Int.reduceNeg, hnm, Tryd.tf0, Tryd.tf1, Tryd.tf3, Tryd.tf4, Tryd.tf9, Tryd.tf22, Tryd.tf23, Tryd.tf28, Tryd.tf36, Tryd.tf42, Tryd.tf45, Tryd.teq45, Tryd.teq94, Tryd.teq104, Tryd.teq113, Tryd.teq114, Tryd.call13, Tryd.call14, Tryd.call24])
      repeat' (first
    | (with_reducible apply W_seq_k; intro nx hnx)
    | (with_reducible first | apply W_block | apply W_scope)
    | (with_reducible refine W_prune 499 ?_; simp only [prb, Nat.reducePow, Nat.reduceDiv, Nat.reduceMod, Nat.reduceBEq]; with_reducible apply W_region_l)
    | ((first | (with_reducible apply WL_op; intro nx hnx) | with_reducible refine Ev_out ?_); try (simp (maxSteps := 2000000) (disch := omega) only [evb, evd, pbuiltin, constPV, pnck, seqK, blockK, scopeK, pbin, pun, ppick, plen, piaddr, pindex, pfield, pslice, pbound, pconv, pelems, pextract, pmm, PV.mem?, PV.one, PV.cells, pageq, peqs, peq1, pmakes, pstore, pbytes, pmark, pusd, pust, psrc, pkey, pnile, pcap, pgrow, List.set, Value.cells, ↓popG_eq, ↓pop.eq_1, ↓List.getElem?_map, ↓List.getElem?_cons_zero, ↓List.getElem?_cons_succ, Value.oneCell', Nat.reduceAdd, Nat.reduceMul, Nat.reduceSub, Nat.reduceLeDiff, Nat.reduceEqDiff, ↓reduceIte, ne_eq, reduceCtorEq, forall_const, exists_and_left, exists_eq_left', eq_self, Nat.reduceLT, Int.reduceLT, Int.reduceLE, Int.reduceToNat, Int.reduceAdd, Int.reduceSub, Int.reduceNeg, hnm, Tryd.tf0, Tryd.tf1, Tryd.tf3, Tryd.tf4, Tryd.tf9, Tryd.tf22, Tryd.tf23, Tryd.tf28, Tryd.tf36, Tryd.tf42, Tryd.tf45, Tryd.teq45, Tryd.teq94, Tryd.teq104, Tryd.teq113, Tryd.teq114, Tryd.call13, Tryd.call14, Tryd.call24, hp]); repeat (refine And.intro (by omega) ?_))
    | ((with_reducible first | apply WL_nil | apply W_label | apply W_skip | apply W_exit | apply W_ret); try simp only [seqK, blockK, scopeK, ↓reduceIte, Nat.reduceEqDiff])
    | (with_reducible apply pguard_intro <;> (intro hc; (try simp only [hcb, reduceCtorEq, forall_const, ne_eq] at hc); first | (exfalso; omega) | (exfalso; exact hc trivial) | refine Ev_in ?_))
    | (with_reducible apply W_cond_k; intro _ _ ea eb; (simp only [condK, cob, opnd, constPV, Nat.reduceEqDiff, Nat.reduceLT, ↓reduceIte, hcb, reduceCtorEq, forall_const, ne_eq]); subst ea eb; first | (refine ⟨fun hc => ?_, fun hc => ?_⟩ <;> first | (exfalso; omega) | (exfalso; exact hc trivial) | skip) | skip)
    | (with_reducible apply hnx; clear hnx nx)
    | (with_reducible refine And.intro (by omega) ?_)
    | (with_reducible refine And.intro ?_ ?_)
    | (with_reducible refine pcall_k (c1) ?_; rintro _ _ ⟨rfl, rfl⟩ -; refine Ev_in ?_)
    | (with_reducible refine pcall_k (c2) ?_; rintro _ _ ⟨rfl, rfl⟩ -; refine Ev_in ?_)
    | (with_reducible refine pcall_k (c3) ?_; rintro _ _ ⟨rfl, rfl⟩ -; refine Ev_in ?_)
    | (clear hnx nx; with_reducible apply hnx; clear hnx nx)
    | (clear hnx nx; clear hnx nx; with_reducible apply hnx; clear hnx nx)
    | (clear hnx nx; clear hnx nx; clear hnx nx; with_reducible apply hnx; clear hnx nx))
      all_goals first | exact absurd trivial hc | contradiction | exact fun h => False.elim h | (exfalso; omega) | (exfalso; have hc := of_decide_eq_false hc; omega) | (exfalso; simp only [Bool.not_false, Bool.not_true, decide_eq_true_eq, decide_eq_false_iff_not] at *; omega) | skip
      all_goals
        refine hfin _ _ (Fin_ret1 rfl (Sub_nil _) ?_); simp only [List.getD_cons_zero, List.getD_cons_succ, fr_getD_cons, fr_getD_nil, Nat.reduceEqDiff, Nat.reduceLT, ↓reduceIte]
        exact ⟨by simp [hp, hq], by trivial⟩
  · (refine PCalls_f Tryd.func26 rfl Tryd.ntmps26 Tryd.results26 (by simp) fun fin hfin => ?_; have hnm : True := trivial; simp (maxSteps := 2000000) (disch := omega) only [evb, evd, pbuiltin, constPV, pnck, seqK, blockK, scopeK, pbin, pun, ppick, plen, piaddr, pindex, pfield, pslice, pbound, pconv, pelems, pextract, pmm, PV.mem?, PV.one, PV.cells, pageq, peqs, peq1, pmakes, pstore, pbytes, pmark, pusd, pust, psrc, pkey, pnile, pcap, pgrow, List.set, Value.cells, ↓popG_eq, ↓pop.eq_1, ↓List.getElem?_map, ↓List.getElem?_cons_zero, ↓List.getElem?_cons_succ, Value.oneCell', Nat.reduceAdd, Nat.reduceMul, Nat.reduceSub, Nat.reduceLeDiff, Nat.reduceEqDiff, ↓reduceIte, ne_eq, reduceCtorEq, forall_const, exists_and_left, exists_eq_left', eq_self, Nat.reduceLT, Int.reduceLT, Int.reduceLE, Int.reduceToNat, Int.reduceAdd, Int.reduceSub, Int.reduceNeg, hnm, Tryd.tf0, Tryd.tf1, Tryd.tf3, Tryd.tf4, Tryd.tf9, Tryd.tf22, Tryd.tf23, Tryd.tf28, Tryd.tf36, Tryd.tf42, Tryd.tf45, Tryd.teq45, Tryd.teq94, Tryd.teq104, Tryd.teq113, Tryd.teq114, Tryd.call13, Tryd.call14, Tryd.call24])
    repeat' (first
    | (with_reducible apply W_seq_k; intro nx hnx)
    | (with_reducible first | apply W_block | apply W_scope)
    | (with_reducible refine W_prune 499 ?_; simp only [prb, Nat.reducePow, Nat.reduceDiv, Nat.reduceMod, Nat.reduceBEq]; with_reducible apply W_region_l)
    | ((first | (with_reducible apply WL_op; intro nx hnx) | with_reducible refine Ev_out ?_); try (simp (maxSteps := 2000000) (disch := omega) only [evb, evd, pbuiltin, constPV, pnck, seqK, blockK, scopeK, pbin, pun, ppick, plen, piaddr, pindex, pfield, pslice, pbound, pconv, pelems, pextract, pmm, PV.mem?, PV.one, PV.cells, pageq, peqs, peq1, pmakes, pstore, pbytes, pmark, pusd, pust, psrc, pkey, pnile, pcap, pgrow, List.set, Value.cells, ↓popG_eq, ↓pop.eq_1, ↓List.getElem?_map, ↓List.getElem?_cons_zero, ↓List.getElem?_cons_succ, Value.oneCell', Nat.reduceAdd, Nat.reduceMul, Nat.reduceSub, Nat.reduceLeDiff, Nat.reduceEqDiff, ↓reduceIte, ne_eq, reduceCtorEq, forall_const, exists_and_left, exists_eq_left', eq_self, Nat.reduceLT, Int.reduceLT, Int.reduceLE, Int.reduceToNat, Int.reduceAdd, Int.reduceSub, Int.reduceNeg, hnm, Tryd.tf0, Tryd.tf1, Tryd.tf3, Tryd.tf4, Tryd.tf9, Tryd.tf22, Tryd.tf23, Tryd.tf28, Tryd.tf36, Tryd.tf42, Tryd.tf45, Tryd.teq45, Tryd.teq94, Tryd.teq104, Tryd.teq113, Tryd.teq114, Tryd.call13, Tryd.call14, Tryd.call24]); repeat (refine And.intro (by omega) ?_))
    | ((with_reducible first | apply WL_nil | apply W_label | apply W_skip | apply W_exit | apply W_ret); try simp only [seqK, blockK, scopeK, ↓reduceIte, Nat.reduceEqDiff])
    | (with_reducible apply pguard_intro <;> (intro hc; (try simp only [hcb, reduceCtorEq, forall_const, ne_eq] at hc); first | (exfalso; omega) | (exfalso; exact hc trivial) | refine Ev_in ?_))
    | (with_reducible apply W_cond_k; intro _ _ ea eb; (simp only [condK, cob, opnd, constPV, Nat.reduceEqDiff, Nat.reduceLT, ↓reduceIte, hcb, reduceCtorEq, forall_const, ne_eq]); subst ea eb; first | (refine ⟨fun hc => ?_, fun hc => ?_⟩ <;> first | (exfalso; omega) | (exfalso; exact hc trivial) | skip) | skip)
    | (with_reducible apply hnx; clear hnx nx)
    | (with_reducible refine And.intro (by omega) ?_)
    | (with_reducible refine And.intro ?_ ?_)
    | (with_reducible refine pcall_k (c1) ?_; rintro _ _ ⟨rfl, rfl⟩ -; refine Ev_in ?_)
    | (with_reducible refine pcall_k (c2) ?_; rintro _ _ ⟨rfl, rfl⟩ -; refine Ev_in ?_)
    | (with_reducible refine pcall_k (c3) ?_; rintro _ _ ⟨rfl, rfl⟩ -; refine Ev_in ?_)
    | (clear hnx nx; with_reducible apply hnx; clear hnx nx)
    | (clear hnx nx; clear hnx nx; with_reducible apply hnx; clear hnx nx)
    | (clear hnx nx; clear hnx nx; clear hnx nx; with_reducible apply hnx; clear hnx nx))
    all_goals first | exact absurd trivial hc | contradiction | exact fun h => False.elim h | (exfalso; omega) | (exfalso; have hc := of_decide_eq_false hc; omega) | (exfalso; simp only [Bool.not_false, Bool.not_true, decide_eq_true_eq, decide_eq_false_iff_not] at *; omega) | skip
    all_goals
      refine hfin _ _ (Fin_ret1 rfl (Sub_nil _) ?_); simp only [List.getD_cons_zero, List.getD_cons_succ, fr_getD_cons, fr_getD_nil, Nat.reduceEqDiff, Nat.reduceLT, ↓reduceIte]
      exact ⟨by simp [hp], by trivial⟩
end Go.PM

namespace Go.PM
open Go.Proofs
attribute [local irreducible] W PCalls pcall pcallI WL
set_option maxRecDepth 100000
set_option maxHeartbeats 8000000
end Go.PM

namespace Go.PM
open Go.Proofs
/-- A list that is empty may be none. -/
theorem PCalls.nil2 {P : Program} {G : Globs} {f : FuncId} {p : PV} {es : Nat} {Hin : Heap} {R : PV → Heap → Prop} (hc : PCalls P G f [p, .list es []] Hin R) : PCalls P G f [p, pnil] Hin R := by
  intro w A F vals h1 h2 h3 h4 h5 h6 h7
  refine hc w A F vals h1 h2 h3 h4 h5 h6 (fun i q hq => ?_)
  match i, hq with
  | 0, hq => exact h7 0 q hq
  | 1, hq =>
    cases hq
    obtain ⟨v, hv, hr⟩ := h7 1 pnil rfl
    exact ⟨v, hv, nil_list es hr⟩
/-- A list of numbers, or none. -/
def wN (x : PV) (u : List Int) : Prop := x = wP u ∨ (u = [] ∧ x = pnil)
theorem PCalls.wn {P : Program} {G : Globs} {f : FuncId} {p x : PV} {u : List Int} {Hin : Heap} {R : PV → Heap → Prop} (hx : wN x u) (hc : PCalls P G f [p, wP u] Hin R) : PCalls P G f [p, x] Hin R := by
  rcases hx with rfl | ⟨rfl, rfl⟩
  · exact hc
  · exact hc.nil2
attribute [local irreducible] W PCalls pcall pcallI WL
set_option maxRecDepth 100000
set_option maxHeartbeats 8000000
theorem frz_row {N : Nat} {l : List (Nat × PV)} {G : Globs} {s : Nat} {M A : Int} {k n : Nat} {t1 t2 : TypeId} {xs : List PV} {pre post : List PV} {H1 H2 : Heap} (hn : n = xs.length) (hl : ∀ x ∈ l, stab x.2 = true) (hMA : (M = A) = False) (h1 : ∀ x ∈ H1, (x.1 = A) = False ∧ ∀ u ∈ x.2.cells, frz1 A xs u = u ∧ u.one = true)
    (h2 : ∀ x ∈ H2, ∀ u ∈ x.2.cells, frz1 A xs u = u ∧ u.one = true) (hp : ∀ u ∈ pre, frz1 A xs u = u ∧ u.one = true) (hq : ∀ u ∈ post, frz1 A xs u = u ∧ u.one = true) :
    Wx G [] ⟨fr N ((s, .row M 1 k) :: l), (M, ⟨t1, true, 1, pre ++ .row A 1 n :: post⟩) :: (H1 ++ (A, ⟨t2, true, 1, xs⟩) :: H2)⟩ ⟨fr N ((s, .row M 1 k) :: l), (M, ⟨t1, true, 1, pre ++ .list 1 xs :: post⟩) :: (H1 ++ H2)⟩ := by
  subst hn
  have hdel : ∀ H1 : Heap, (∀ x ∈ H1, (x.1 = A) = False) → look (H1 ++ (A, ⟨t2, true, 1, xs⟩) :: H2) A = some ⟨t2, true, 1, xs⟩ ∧ del (H1 ++ (A, ⟨t2, true, 1, xs⟩) :: H2) A = H1 ++ H2 := by
    intro H1
    induction H1 with
    | nil => intro _; simp [look, del]
    | cons x r ih =>
      intro h
      obtain ⟨i1, i2⟩ := ih fun y hy => h y (List.mem_cons_of_mem _ hy)
      have hx : ¬ x.1 = A := of_eq_false (h x List.mem_cons_self)
      obtain ⟨m, o⟩ := x
      simp only at hx
      simp only [List.cons_append, look, del, if_neg hx, i1, i2]
      exact ⟨trivial, trivial⟩
  obtain ⟨d1, d2⟩ := hdel H1 fun x hx => (h1 x hx).1
  have hM : ¬ M = A := of_eq_false hMA
  have fA : frz1 A xs (.row A 1 xs.length) = .list 1 xs := by
    simp only [frz1, if_true, elemsOf]
    rw [if_pos ⟨by simp, by omega⟩, List.take_of_length_le (by simp)]
  have h := Wx.freeze_f (G := G) (I := []) (N := N) (l := (s, .row M 1 k) :: l) (H := (M, ⟨t1, true, 1, pre ++ .row A 1 xs.length :: post⟩) :: (H1 ++ (A, ⟨t2, true, 1, xs⟩) :: H2)) A (o := ⟨t2, true, 1, xs⟩) (by simp)
    (by simp only [look, if_neg hM]; exact d1) (by
      intro x hx u hu
      simp only [del, if_neg hM, d2, List.mem_cons, List.mem_append] at hx
      rcases hx with rfl | hx | hx
      · simp only [List.mem_append, List.mem_cons] at hu
        rcases hu with hu | rfl | hu
        · rw [(hp u hu).1]; exact (hp u hu).2
        · rw [fA]; rfl
        · rw [(hq u hu).1]; exact (hq u hu).2
      · rw [((h1 x hx).2 u hu).1]; exact ((h1 x hx).2 u hu).2
      · rw [(h2 x hx u hu).1]; exact (h2 x hx u hu).2)
  have e1 : ((s, PV.row M 1 k) :: l).map (fun x => (x.1, frz A xs x.2)) = (s, .row M 1 k) :: l := by
    rw [List.map_cons]
    congr 1
    · simp only [frz, frz1, if_neg hM]
    · conv => rhs; rw [← List.map_id l]
      exact List.map_congr_left fun x hx => by rw [(stab_frz (hl x hx) _ _).1]; rfl
  have mapid : ∀ L : List PV, (∀ u ∈ L, frz1 A xs u = u ∧ u.one = true) → L.map (frz1 A xs) = L := by
    intro L hL
    conv => rhs; rw [← List.map_id L]
    exact List.map_congr_left fun u hu => by rw [(hL u hu).1]; rfl
  have e2 : ∀ L : Heap, (∀ x ∈ L, ∀ u ∈ x.2.cells, frz1 A xs u = u ∧ u.one = true) → L.map (fun x => (x.1, { x.2 with cells := x.2.cells.map (frz1 A xs) })) = L := by
    intro L hL
    conv => rhs; rw [← List.map_id L]
    exact List.map_congr_left fun x hx => by
      obtain ⟨m, o⟩ := x
      simp only [mapid _ (hL _ hx)]
      rfl
  rw [e1] at h
  simp only [frzH, del, if_neg hM, d2, List.map_cons, List.map_append, e2 H1 (fun x hx => (h1 x hx).2), e2 H2 h2, mapid pre hp, mapid post hq, fA] at h
  exact h
theorem frz_words (G : Globs) (a : List Ltr) (w l k : List Int) (b : Int) (M A B C D X5 : Int) (nA : ¬ A = B ∧ ¬ A = C ∧ ¬ A = D ∧ ¬ B = C ∧ ¬ B = D ∧ ¬ C = D) (nM : (M = A) = False ∧ (M = B) = False ∧ (M = C) = False ∧ (M = D) = False) :
    Wx G [] ⟨fr 98 [(10, .val (.int .i64 0)), (9, .row M 1 6), (8, wP w), (7, ltsP a), (6, .val (.bool false)), (0, wP l), (1, wP k), (2, pint .i64 b)],
      [(M, ⟨22, true, 1, [wP w, .row A 1 (w.length + 1), .row B 1 1, .row C 1 1, .row D 1 1, pnil]⟩), (D, ⟨3, true, 1, [.val (.int .i64 (-1))]⟩), (C, ⟨3, true, 1, [pint .i64 a.length]⟩), (B, ⟨3, true, 1, [pint .i64 b]⟩), (A, ⟨3, true, 1, w.map (pint .i64) ++ [pint .i64 b]⟩), (X5, ⟨3, true, 1, [pint .i64 b]⟩)]⟩
      ⟨fr 98 [(10, pn 0), (9, .list 1 [wP w, wP (w ++ [b]), wP [b], wP [(a.length : Int)], wP [-1], pnil]), (7, ltsP a)], []⟩ := by
  have st : ∀ x ∈ [(10, pn 0), (7, ltsP a)], stab x.2 = true := by
    intro x hx
    simp only [List.mem_cons, List.not_mem_nil, or_false] at hx
    rcases hx with rfl | rfl <;> rfl
  have sw : ∀ (N : Int) (xs : List PV) (u : List Int), frz1 N xs (wP u) = wP u ∧ (wP u).one = true := fun _ _ _ => ⟨rfl, rfl⟩
  have sp : ∀ (N : Int) (xs : List PV), frz1 N xs pnil = pnil ∧ pnil.one = true := fun _ _ => ⟨rfl, rfl⟩
  have sr : ∀ (N N' : Int) (k : Nat) (xs : List PV), ¬ N' = N → frz1 N xs (.row N' 1 k) = .row N' 1 k ∧ (PV.row N' 1 k).one = true := fun N N' k xs h => ⟨by simp only [frz1, if_neg h], rfl⟩
  have sm : ∀ (N : Int) (xs : List PV) (u : List Int), ∀ v ∈ u.map (pint .i64), frz1 N xs v = v ∧ v.one = true := by
    intro N xs u v hv
    obtain ⟨k, _, rfl⟩ := List.mem_map.1 hv
    exact ⟨rfl, rfl⟩
  obtain ⟨n1, n2, n3, n4, n5, n6⟩ := nA
  obtain ⟨m1, m2, m3, m4⟩ := nM
  have q1 : ¬ B = A := fun e => n1 e.symm
  have q2 : ¬ C = A := fun e => n2 e.symm
  have q3 : ¬ D = A := fun e => n3 e.symm
  have q4 : ¬ C = B := fun e => n4 e.symm
  have q5 : ¬ D = B := fun e => n5 e.symm
  have q6 : ¬ D = C := fun e => n6 e.symm
  have s0 : Wk (⟨fr 98 [(10, .val (.int .i64 0)), (9, .row M 1 6), (8, wP w), (7, ltsP a), (6, .val (.bool false)), (0, wP l), (1, wP k), (2, pint .i64 b)],
      [(M, ⟨22, true, 1, [wP w, .row A 1 (w.length + 1), .row B 1 1, .row C 1 1, .row D 1 1, pnil]⟩), (D, ⟨3, true, 1, [.val (.int .i64 (-1))]⟩), (C, ⟨3, true, 1, [pint .i64 a.length]⟩), (B, ⟨3, true, 1, [pint .i64 b]⟩), (A, ⟨3, true, 1, w.map (pint .i64) ++ [pint .i64 b]⟩), (X5, ⟨3, true, 1, [pint .i64 b]⟩)]⟩ : PState)
      ⟨fr 98 [(9, .row M 1 6), (10, pn 0), (7, ltsP a)],
      [(M, ⟨22, true, 1, [wP w] ++ .row A 1 (w.length + 1) :: [.row B 1 1, .row C 1 1, .row D 1 1, pnil]⟩)] ++ ([] ++ (A, ⟨3, true, 1, (w ++ [b]).map (pint .i64)⟩) :: [(B, ⟨3, true, 1, [b].map (pint .i64)⟩), (C, ⟨3, true, 1, [(a.length : Int)].map (pint .i64)⟩), (D, ⟨3, true, 1, [-1].map (pint .i64)⟩)])⟩ := by
    refine Wk_fr (by simp only [wkb, Nat.reduceEqDiff, Nat.reduceLT, ↓reduceIte, pn]) ?_
    refine ⟨fun x hx => ?_, by simp [names, m1, m2, m3, m4, n1, n2, n3, n4, n5, n6]⟩
    simp only [List.map_append, List.map_cons, List.map_nil, List.nil_append, List.cons_append, List.mem_cons, List.not_mem_nil, or_false] at hx ⊢
    rcases hx with rfl | rfl | rfl | rfl | rfl
    · exact .inl rfl
    · exact .inr (.inr (.inr (.inr (.inl rfl))))
    · exact .inr (.inr (.inr (.inl rfl)))
    · exact .inr (.inr (.inl rfl))
    · exact .inr (.inl rfl)
  refine (Wx.of_wk s0).trans ?_
  have memH : ∀ (N : Int) (xs : List PV) (H : Heap), (∀ x ∈ H, ∃ u : List Int, x.2.cells = u.map (pint .i64)) → ∀ x ∈ H, ∀ v ∈ x.2.cells, frz1 N xs v = v ∧ v.one = true := by
    intro N xs H h x hx v hv
    obtain ⟨u, hu⟩ := h x hx
    rw [hu] at hv
    exact sm _ _ u v hv
  refine (frz_row (s := 9) (M := M) (A := A) (xs := (w ++ [b]).map (pint .i64)) (pre := [wP w]) (H1 := []) (by simp) st m1 (by simp) (memH _ _ _ ?_) ?_ ?_).trans ?_
  · intro x hx
    simp only [List.mem_cons, List.not_mem_nil, or_false] at hx
    rcases hx with rfl | rfl | rfl <;> exact ⟨_, rfl⟩
  · intro u hu
    simp only [List.mem_cons, List.not_mem_nil, or_false] at hu
    subst hu
    exact sw _ _ _
  · intro u hu
    simp only [List.mem_cons, List.not_mem_nil, or_false] at hu
    rcases hu with rfl | rfl | rfl | rfl
    · exact sr _ _ _ _ q1
    · exact sr _ _ _ _ q2
    · exact sr _ _ _ _ q3
    · exact sp _ _
  refine (frz_row (s := 9) (M := M) (A := B) (xs := [b].map (pint .i64)) (pre := [wP w, wP (w ++ [b])]) (H1 := []) (by simp) st m2 (by simp) (memH _ _ _ ?_) ?_ ?_).trans ?_
  · intro x hx
    simp only [List.mem_cons, List.not_mem_nil, or_false] at hx
    rcases hx with rfl | rfl <;> exact ⟨_, rfl⟩
  · intro u hu
    simp only [List.mem_cons, List.not_mem_nil, or_false] at hu
    rcases hu with rfl | rfl <;> exact sw _ _ _
  · intro u hu
    simp only [List.mem_cons, List.not_mem_nil, or_false] at hu
    rcases hu with rfl | rfl | rfl
    · exact sr _ _ _ _ q4
    · exact sr _ _ _ _ q5
    · exact sp _ _
  refine (frz_row (s := 9) (M := M) (A := C) (xs := [(a.length : Int)].map (pint .i64)) (pre := [wP w, wP (w ++ [b]), wP [b]]) (H1 := []) (by simp) st m3 (by simp) (memH _ _ _ ?_) ?_ ?_).trans ?_
  · intro x hx
    simp only [List.mem_cons, List.not_mem_nil, or_false] at hx
    subst hx
    exact ⟨_, rfl⟩
  · intro u hu
    simp only [List.mem_cons, List.not_mem_nil, or_false] at hu
    rcases hu with rfl | rfl | rfl <;> exact sw _ _ _
  · intro u hu
    simp only [List.mem_cons, List.not_mem_nil, or_false] at hu
    rcases hu with rfl | rfl
    · exact sr _ _ _ _ q6
    · exact sp _ _
  refine (frz_row (s := 9) (M := M) (A := D) (xs := [-1].map (pint .i64)) (pre := [wP w, wP (w ++ [b]), wP [b], wP [(a.length : Int)]]) (H1 := []) (H2 := []) (by simp) st m4 (by simp) (by simp) ?_ ?_).trans ?_
  · intro u hu
    simp only [List.mem_cons, List.not_mem_nil, or_false] at hu
    rcases hu with rfl | rfl | rfl | rfl <;> exact sw _ _ _
  · intro u hu
    simp only [List.mem_cons, List.not_mem_nil, or_false] at hu
    subst hu
    exact sp _ _
  have h := Wx.freeze_f (G := G) (I := []) (N := 98) (l := [(9, .row M 1 6), (10, pn 0), (7, ltsP a)]) (H := [(M, ⟨22, true, 1, [wP w, wP (w ++ [b]), wP [b], wP [(a.length : Int)], wP [-1], pnil]⟩)]) M (o := ⟨22, true, 1, [wP w, wP (w ++ [b]), wP [b], wP [(a.length : Int)], wP [-1], pnil]⟩) (by simp) (by simp only [look, if_true]) (by simp [frzOk, del])
  refine h.trans (Wx.of_wk ?_)
  simp only [List.map_cons, List.map_nil, frz, frz1, if_true, elemsOf, frzH, del, List.length_cons, List.length_nil, Nat.reduceAdd, Nat.reduceMul, Nat.reduceLeDiff, Nat.reduceLT, and_self, Nat.le_refl, List.take_succ_cons, List.take_zero]
  refine Wk_fr (by simp only [wkb, Nat.reduceEqDiff, Nat.reduceLT, ↓reduceIte, pn]) ?_
  exact Sub_refl (by simp [names])
end Go.PM

namespace Go.PM
open Go.Proofs
attribute [local irreducible] W PCalls pcall pcallI WL
set_option maxRecDepth 100000
set_option maxHeartbeats 8000000
theorem law6 (G : Globs) (l k : List Int) (b : Int) (hl : okI l) (hk : okI k) (hb : i64 b) : PCalls Tryd.prog G 6 [wP l, wP k, pint .i64 b] [] (fun res H => res = pbool true ∧ H = []) := by
  have hv := letters_valid l
  have hA := valid_HA hv
  have hn := lettersF_len l
  have c1 := letters_c G l hl
  have c2 := word_c G (lettersF l) k (by omega) (by omega) hk
  have hwl : (wordF (lettersF l).length k).length ≤ 12 := by
    unfold wordF
    rw [List.length_map, List.length_take]
    omega
  generalize lettersF l = a at *
  generalize wordF a.length k = w at *
  have c9 := lives_c G
  (refine PCalls_f Tryd.func6 rfl Tryd.ntmps6 Tryd.results6 (by simp) fun fin hfin => ?_; have hnm : True := trivial; simp (maxSteps := 2000000) (disch := omega) only [evb, evd, pbuiltin, constPV, pnck, seqK, blockK, scopeK, pbin, pun, ppick, plen, piaddr, pindex, pfield, pslice, pbound, pconv, pelems, pextract, pmm, PV.mem?, PV.one, PV.cells, pageq, peqs, peq1, pmakes, pstore, pbytes, pmark, pusd, pust, psrc, pkey, pnile, pcap, pgrow, List.set, Value.cells, ↓popG_eq, ↓pop.eq_1, ↓List.getElem?_map, ↓List.getElem?_cons_zero, ↓List.getElem?_cons_succ, Value.oneCell', Nat.reduceAdd, Nat.reduceMul, Nat.reduceSub, Nat.reduceLeDiff, Nat.reduceEqDiff, ↓reduceIte, ne_eq, reduceCtorEq, forall_const, exists_and_left, exists_eq_left', eq_self, Nat.reduceLT, Int.reduceLT, Int.reduceLE, Int.reduceToNat, Int.reduceAdd, Int.reduceSub, Int.reduceNeg, hnm, Tryd.tf0, Tryd.tf1, Tryd.tf3, Tryd.tf4, Tryd.tf6, Tryd.tf9, Tryd.tf22, Tryd.tf23, Tryd.tf36, Tryd.tf42, Tryd.tf45, Tryd.teq45, Tryd.tf47, Tryd.teq94, Tryd.teq104, Tryd.teq113, Tryd.teq114, Tryd.call9, Tryd.call14, Tryd.call15, Tryd.call22, Tryd.call23, Tryd.call24, Tryd.call25, Tryd.call26, Tryd.call27, Tryd.call28])
  repeat' (first
    | (with_reducible apply W_seq_k; intro nx hnx)
    | (with_reducible first | apply W_block | apply W_scope)
    | (with_reducible refine W_prune 32711 ?_; simp only [prb, Nat.reducePow, Nat.reduceDiv, Nat.reduceMod, Nat.reduceBEq]; first | (with_reducible apply W_region_l) | with_reducible refine W_region_draw (id := 9) 5 (.op 0 true (.op 1 true (.op 2 true (.op 3 true (.op 4 true (.op 5 true (.op 6 true (.op 7 true (.op 8 true (.op 9 true (.op 10 true (.op 11 true (.op 12 true (.op 13 true (.op 15 true (.op 16 true (.op 17 true (.op 18 true (.op 19 true (.op 14 true (.op 20 false (.op 21 true (.op 22 true (.op 23 true (.op 24 true (.op 25 true (.op 26 true (.op 27 true (.op 28 true (.op 30 true (.op 31 true (.op 32 true (.op 33 true (.op 34 true (.op 29 true (.op 35 false (.op 36 false (.op 37 true (.op 38 true (.done)))))))))))))))))))))))))))))))))))))))) (by kernel_rfl) ?_)
    | ((first | (with_reducible apply WL_op; intro nx hnx) | with_reducible refine Ev_out ?_ | (with_reducible apply popsD_op; intro nx hnx) | (with_reducible refine popsD_alt ?_ ?_; intro nx hnx) | (with_reducible refine pfresh_k hnm fun nm hnm => ?_; (try simp only [fmb] at hnm)) | (with_reducible refine pborn_mu hnm fun nm hnm => ?_; (try simp only [fmb] at hnm)) | (with_reducible refine pmaybe_k ?_; intro bn hbn)); try (simp (maxSteps := 2000000) (disch := omega) only [evb, evd, pbuiltin, constPV, pnck, seqK, blockK, scopeK, pbin, pun, ppick, plen, piaddr, pindex, pfield, pslice, pbound, pconv, pelems, pextract, pmm, PV.mem?, PV.one, PV.cells, pageq, peqs, peq1, pmakes, pstore, pbytes, pmark, pusd, pust, psrc, pkey, pnile, pcap, pgrow, List.set, Value.cells, ↓popG_eq, ↓pop.eq_1, ↓List.getElem?_map, ↓List.getElem?_cons_zero, ↓List.getElem?_cons_succ, Value.oneCell', Nat.reduceAdd, Nat.reduceMul, Nat.reduceSub, Nat.reduceLeDiff, Nat.reduceEqDiff, ↓reduceIte, ne_eq, reduceCtorEq, forall_const, exists_and_left, exists_eq_left', eq_self, Nat.reduceLT, Int.reduceLT, Int.reduceLE, Int.reduceToNat, Int.reduceAdd, Int.reduceSub, Int.reduceNeg, hnm, Tryd.tf0, Tryd.tf1, Tryd.tf3, Tryd.tf4, Tryd.tf6, Tryd.tf9, Tryd.tf22, Tryd.tf23, Tryd.tf36, Tryd.tf42, Tryd.tf45, Tryd.teq45, Tryd.tf47, Tryd.teq94, Tryd.teq104, Tryd.teq113, Tryd.teq114, Tryd.call9, Tryd.call14, Tryd.call15, Tryd.call22, Tryd.call23, Tryd.call24, Tryd.call25, Tryd.call26, Tryd.call27, Tryd.call28, flat_pi]); repeat (refine And.intro (by omega) ?_))
    | ((with_reducible first | apply WL_nil | apply W_label | apply W_skip | apply W_exit | apply W_ret | apply popsD_done); try simp only [seqK, blockK, scopeK, ↓reduceIte, Nat.reduceEqDiff])
    | with_reducible exact popsD_stop
    | (with_reducible apply pguard_intro <;> (intro hc; (try simp only [hcb, reduceCtorEq, forall_const, ne_eq] at hc); first | (exfalso; omega) | (exfalso; exact hc trivial) | refine Ev_in ?_))
    | (with_reducible apply W_cond_k; intro _ _ ea eb; (simp only [condK, cob, opnd, constPV, Nat.reduceEqDiff, Nat.reduceLT, ↓reduceIte, hcb, reduceCtorEq, forall_const, ne_eq]); subst ea eb; first | (refine ⟨fun hc => ?_, fun hc => ?_⟩ <;> first | (exfalso; omega) | (exfalso; exact hc trivial) | skip) | skip)
    | (with_reducible apply hnx; clear hnx nx)
    | (with_reducible refine And.intro (by omega) ?_)
    | (with_reducible refine And.intro ?_ ?_)
    | (with_reducible refine pcall_k (c1) ?_; rintro _ _ ⟨rfl, rfl⟩ -; refine Ev_in ?_)
    | (with_reducible refine pcall_k (c2) ?_; rintro _ _ ⟨rfl, rfl⟩ -; refine Ev_in ?_)
    | (clear hnx nx; with_reducible apply hnx; clear hnx nx)
    | (clear hnx nx; clear hnx nx; with_reducible apply hnx; clear hnx nx)
    | (clear hnx nx; clear hnx nx; clear hnx nx; with_reducible apply hnx; clear hnx nx))
  all_goals first | exact absurd trivial hc | contradiction | exact fun h => False.elim h | (exfalso; omega) | (exfalso; have hc := of_decide_eq_false hc; omega) | (exfalso; simp only [Bool.not_false, Bool.not_true, decide_eq_true_eq, decide_eq_false_iff_not] at *; omega) | skip
  rename_i X5 g5 A g4 B g3 C g2 D g1
  generalize nm = M at *
  obtain ⟨hb1, hb2⟩ := hb
  obtain ⟨L, hL⟩ : ∃ L, L = [wP w, wP (w ++ [b]), wP [b], wP [(a.length : Int)], wP [-1], pnil] := ⟨_, rfl⟩
  have hLl : L.length = 6 := by rw [hL]; rfl
  have hLu : ∀ i, i < 6 → ∃ u x, u.length ≤ 13 ∧ wN x u ∧ L[i]? = some x := by
    intro i hi
    rw [hL]
    match i, hi with
    | 0, _ => exact ⟨w, _, by omega, .inl rfl, rfl⟩
    | 1, _ => exact ⟨w ++ [b], _, by simp; omega, .inl rfl, rfl⟩
    | 2, _ => exact ⟨[b], _, by simp, .inl rfl, rfl⟩
    | 3, _ => exact ⟨[(a.length : Int)], _, by simp, .inl rfl, rfl⟩
    | 4, _ => exact ⟨[-1], _, by simp, .inl rfl, rfl⟩
    | 5, _ => exact ⟨[], _, by simp, .inr ⟨rfl, rfl⟩, rfl⟩
  refine W_x (τ := ⟨fr 98 [(10, pn 0), (9, .list 1 L), (7, ltsP a)], []⟩) ?_ ?_
  · have nA : ¬ A = B ∧ ¬ A = C ∧ ¬ A = D ∧ ¬ B = C ∧ ¬ B = D ∧ ¬ C = D := by simp [hnm]
    have nM : (M = A) = False ∧ (M = B) = False ∧ (M = C) = False ∧ (M = D) = False := by simp [hnm]
    rw [hL]
    exact frz_words G a w l k b M A B C D X5 nA nM
  refine W_loop_k (fun z τ => ∃ (i : Nat), i ≤ 6 ∧ z = 6 - i ∧ τ = ⟨fr 98 [(10, pn i), (9, .list 1 L), (7, ltsP a)], []⟩) 6
    ⟨fr 98 [(10, pn 0), (9, .list 1 L), (7, ltsP a)], []⟩ (by
    exact Wk_fr (by simp only [wkb, Nat.reduceEqDiff, Nat.reduceLT, ↓reduceIte, pn]) (Sub_nil _)) ⟨0, by omega, by omega, rfl⟩ ?_
  rintro z τ ⟨i, hi, rfl, rfl⟩ lp hlp
  by_cases hil : i < 6
  · obtain ⟨u, x, hul, hx, hgi⟩ := hLu i hil
    have d1 := (write_c G a u hA (by omega)).wn hx
    have d2 := (rwrite_c G a u hA (by omega)).wn hx
    have d3 := (safe_c G a u hA (by omega)).wn hx
    have d4 := (rsafe_c G a u hA (by omega)).wn hx
    have d5 := (fold_c G a u hA (by omega)).wn hx
    have d6 := (CRI.frz (rfold_r G a u hA (by omega))).wn hx
    have d7 := sameInts_c G (foldF a u) (foldF a u) (by rw [foldF_len]; omega)
    have h1 := writeF_len (a := a) (w := u)
    generalize foldF a u = fu at *
    generalize safeF a u = su at *
    generalize writeF a u = wu at *
    have hgd : L.getD i .junk = x := by rw [List.getD_eq_getElem?_getD, hgi]; rfl
    rcases hx with rfl | ⟨rfl, rfl⟩
    all_goals
      repeat' (first
    | (with_reducible apply W_seq_k; intro nx hnx)
    | (with_reducible first | apply W_block | apply W_scope)
    | (with_reducible refine W_prune 32711 ?_; simp only [prb, Nat.reducePow, Nat.reduceDiv, Nat.reduceMod, Nat.reduceBEq]; first | (with_reducible apply W_region_l) | with_reducible refine W_region_draw (id := 9) 5 (.op 0 true (.op 1 true (.op 2 true (.op 3 true (.op 4 true (.op 5 true (.op 6 true (.op 7 true (.op 8 true (.op 9 true (.op 10 true (.op 11 true (.op 12 true (.op 13 true (.op 15 true (.op 16 true (.op 17 true (.op 18 true (.op 19 true (.op 14 true (.op 20 false (.op 21 true (.op 22 true (.op 23 true (.op 24 true (.op 25 true (.op 26 true (.op 27 true (.op 28 true (.op 30 true (.op 31 true (.op 32 true (.op 33 true (.op 34 true (.op 29 true (.op 35 false (.op 36 false (.op 37 true (.op 38 true (.done)))))))))))))))))))))))))))))))))))))))) (by kernel_rfl) ?_)
    | ((first | (with_reducible apply WL_op; intro nx hnx) | with_reducible refine Ev_out ?_ | (with_reducible apply popsD_op; intro nx hnx) | (with_reducible refine popsD_alt ?_ ?_; intro nx hnx) | (with_reducible refine pfresh_k hnm fun nm hnm => ?_; (try simp only [fmb] at hnm)) | (with_reducible refine pborn_mu hnm fun nm hnm => ?_; (try simp only [fmb] at hnm)) | (with_reducible refine pmaybe_k ?_; intro bn hbn)); try (simp (maxSteps := 2000000) (disch := omega) only [evb, evd, pbuiltin, constPV, pnck, seqK, blockK, scopeK, pbin, pun, ppick, plen, piaddr, pindex, pfield, pslice, pbound, pconv, pelems, pextract, pmm, PV.mem?, PV.one, PV.cells, pageq, peqs, peq1, pmakes, pstore, pbytes, pmark, pusd, pust, psrc, pkey, pnile, pcap, pgrow, List.set, Value.cells, ↓popG_eq, ↓pop.eq_1, ↓List.getElem?_map, ↓List.getElem?_cons_zero, ↓List.getElem?_cons_succ, Value.oneCell', Nat.reduceAdd, Nat.reduceMul, Nat.reduceSub, Nat.reduceLeDiff, Nat.reduceEqDiff, ↓reduceIte, ne_eq, reduceCtorEq, forall_const, exists_and_left, exists_eq_left', eq_self, Nat.reduceLT, Int.reduceLT, Int.reduceLE, Int.reduceToNat, Int.reduceAdd, Int.reduceSub, Int.reduceNeg, hnm, Tryd.tf0, Tryd.tf1, Tryd.tf3, Tryd.tf4, Tryd.tf6, Tryd.tf9, Tryd.tf22, Tryd.tf23, Tryd.tf36, Tryd.tf42, Tryd.tf45, Tryd.teq45, Tryd.tf47, Tryd.teq94, Tryd.teq104, Tryd.teq113, Tryd.teq114, Tryd.call9, Tryd.call14, Tryd.call15, Tryd.call22, Tryd.call23, Tryd.call24, Tryd.call25, Tryd.call26, Tryd.call27, Tryd.call28, hgi, hgd, hLl]); repeat (refine And.intro (by omega) ?_))
    | ((with_reducible first | apply WL_nil | apply W_label | apply W_skip | apply W_exit | apply W_ret | apply popsD_done); try simp only [seqK, blockK, scopeK, ↓reduceIte, Nat.reduceEqDiff])
    | with_reducible exact popsD_stop
    | (with_reducible apply pguard_intro <;> (intro hc; (try simp only [hcb, reduceCtorEq, forall_const, ne_eq] at hc); first | (exfalso; omega) | (exfalso; exact hc trivial) | refine Ev_in ?_))
    | (with_reducible apply W_cond_k; intro _ _ ea eb; (simp only [condK, cob, opnd, constPV, Nat.reduceEqDiff, Nat.reduceLT, ↓reduceIte, hcb, reduceCtorEq, forall_const, ne_eq]); subst ea eb; first | (refine ⟨fun hc => ?_, fun hc => ?_⟩ <;> first | (exfalso; omega) | (exfalso; exact hc trivial) | skip) | skip)
    | (with_reducible apply hnx; clear hnx nx)
    | (with_reducible refine And.intro (by omega) ?_)
    | (with_reducible refine And.intro ?_ ?_)
    | (with_reducible refine pcall_k (d1) ?_; rintro _ _ ⟨rfl, rfl⟩ -; refine Ev_in ?_)
    | (with_reducible refine pcall_k (d2) ?_; rintro _ _ ⟨rfl, rfl⟩ -; refine Ev_in ?_)
    | (with_reducible refine pcall_k (d3) ?_; rintro _ _ ⟨rfl, rfl⟩ -; refine Ev_in ?_)
    | (with_reducible refine pcall_k (d4) ?_; rintro _ _ ⟨rfl, rfl⟩ -; refine Ev_in ?_)
    | (with_reducible refine pcall_k (d5) ?_; rintro _ _ ⟨rfl, rfl⟩ -; refine Ev_in ?_)
    | (with_reducible refine pcall_k (d6) ?_; rintro _ _ ⟨rfl, rfl⟩ -; refine Ev_in ?_)
    | (with_reducible refine pcall_k (d7) ?_; rintro _ _ ⟨rfl, rfl⟩ -; refine Ev_in ?_)
    | (clear hnx nx; with_reducible apply hnx; clear hnx nx)
    | (clear hnx nx; clear hnx nx; with_reducible apply hnx; clear hnx nx)
    | (clear hnx nx; clear hnx nx; clear hnx nx; with_reducible apply hnx; clear hnx nx))
      all_goals first | exact absurd trivial hc | contradiction | exact fun h => False.elim h | (exfalso; omega) | (exfalso; have hc := of_decide_eq_false hc; omega) | (exfalso; simp only [Bool.not_false, Bool.not_true, decide_eq_true_eq, decide_eq_false_iff_not] at *; omega) | skip
    all_goals
      refine hlp _ (6 - (i + 1)) _ (by omega) ?_ ⟨i + 1, by omega, rfl, rfl⟩
      exact Wk_fr (by simp only [wkb, Nat.reduceEqDiff, Nat.reduceLT, ↓reduceIte, pn]) (Sub_nil _)
  · have hi2 : i = 6 := by omega
    subst hi2
    repeat' (first
    | (with_reducible apply W_seq_k; intro nx hnx)
    | (with_reducible first | apply W_block | apply W_scope)
    | (with_reducible refine W_prune 32711 ?_; simp only [prb, Nat.reducePow, Nat.reduceDiv, Nat.reduceMod, Nat.reduceBEq]; first | (with_reducible apply W_region_l) | with_reducible refine W_region_draw (id := 9) 5 (.op 0 true (.op 1 true (.op 2 true (.op 3 true (.op 4 true (.op 5 true (.op 6 true (.op 7 true (.op 8 true (.op 9 true (.op 10 true (.op 11 true (.op 12 true (.op 13 true (.op 15 true (.op 16 true (.op 17 true (.op 18 true (.op 19 true (.op 14 true (.op 20 false (.op 21 true (.op 22 true (.op 23 true (.op 24 true (.op 25 true (.op 26 true (.op 27 true (.op 28 true (.op 30 true (.op 31 true (.op 32 true (.op 33 true (.op 34 true (.op 29 true (.op 35 false (.op 36 false (.op 37 true (.op 38 true (.done)))))))))))))))))))))))))))))))))))))))) (by kernel_rfl) ?_)
    | ((first | (with_reducible apply WL_op; intro nx hnx) | with_reducible refine Ev_out ?_ | (with_reducible apply popsD_op; intro nx hnx) | (with_reducible refine popsD_alt ?_ ?_; intro nx hnx) | (with_reducible refine pfresh_k hnm fun nm hnm => ?_; (try simp only [fmb] at hnm)) | (with_reducible refine pborn_mu hnm fun nm hnm => ?_; (try simp only [fmb] at hnm)) | (with_reducible refine pmaybe_k ?_; intro bn hbn)); try (simp (maxSteps := 2000000) (disch := omega) only [evb, evd, pbuiltin, constPV, pnck, seqK, blockK, scopeK, pbin, pun, ppick, plen, piaddr, pindex, pfield, pslice, pbound, pconv, pelems, pextract, pmm, PV.mem?, PV.one, PV.cells, pageq, peqs, peq1, pmakes, pstore, pbytes, pmark, pusd, pust, psrc, pkey, pnile, pcap, pgrow, List.set, Value.cells, ↓popG_eq, ↓pop.eq_1, ↓List.getElem?_map, ↓List.getElem?_cons_zero, ↓List.getElem?_cons_succ, Value.oneCell', Nat.reduceAdd, Nat.reduceMul, Nat.reduceSub, Nat.reduceLeDiff, Nat.reduceEqDiff, ↓reduceIte, ne_eq, reduceCtorEq, forall_const, exists_and_left, exists_eq_left', eq_self, Nat.reduceLT, Int.reduceLT, Int.reduceLE, Int.reduceToNat, Int.reduceAdd, Int.reduceSub, Int.reduceNeg, hnm, Tryd.tf0, Tryd.tf1, Tryd.tf3, Tryd.tf4, Tryd.tf6, Tryd.tf9, Tryd.tf22, Tryd.tf23, Tryd.tf36, Tryd.tf42, Tryd.tf45, Tryd.teq45, Tryd.tf47, Tryd.teq94, Tryd.teq104, Tryd.teq113, Tryd.teq114, Tryd.call9, Tryd.call14, Tryd.call15, Tryd.call22, Tryd.call23, Tryd.call24, Tryd.call25, Tryd.call26, Tryd.call27, Tryd.call28, hLl]); repeat (refine And.intro (by omega) ?_))
    | ((with_reducible first | apply WL_nil | apply W_label | apply W_skip | apply W_exit | apply W_ret | apply popsD_done); try simp only [seqK, blockK, scopeK, ↓reduceIte, Nat.reduceEqDiff])
    | with_reducible exact popsD_stop
    | (with_reducible apply pguard_intro <;> (intro hc; (try simp only [hcb, reduceCtorEq, forall_const, ne_eq] at hc); first | (exfalso; omega) | (exfalso; exact hc trivial) | refine Ev_in ?_))
    | (with_reducible apply W_cond_k; intro _ _ ea eb; (simp only [condK, cob, opnd, constPV, Nat.reduceEqDiff, Nat.reduceLT, ↓reduceIte, hcb, reduceCtorEq, forall_const, ne_eq]); subst ea eb; first | (refine ⟨fun hc => ?_, fun hc => ?_⟩ <;> first | (exfalso; omega) | (exfalso; exact hc trivial) | skip) | skip)
    | (with_reducible apply hnx; clear hnx nx)
    | (with_reducible refine And.intro (by omega) ?_)
    | (with_reducible refine And.intro ?_ ?_)
    | (with_reducible refine pcall_k (c9) ?_; rintro _ _ ⟨rfl, rfl⟩ -; refine Ev_in ?_)
    | (clear hnx nx; with_reducible apply hnx; clear hnx nx)
    | (clear hnx nx; clear hnx nx; with_reducible apply hnx; clear hnx nx)
    | (clear hnx nx; clear hnx nx; clear hnx nx; with_reducible apply hnx; clear hnx nx))
    all_goals first | exact absurd trivial hc | contradiction | exact fun h => False.elim h | (exfalso; omega) | (exfalso; have hc := of_decide_eq_false hc; omega) | (exfalso; simp only [Bool.not_false, Bool.not_true, decide_eq_true_eq, decide_eq_false_iff_not] at *; omega) | skip
    (refine hfin _ _ (Fin_ret1 rfl (Sub_nil _) ?_); simp only [List.getD_cons_zero, List.getD_cons_succ, fr_getD_cons, fr_getD_nil, Nat.reduceEqDiff, Nat.reduceLT, ↓reduceIte]; first | trivial | exact ⟨rfl, by trivial⟩ | (simp; done) | (simp; omega))
end Go.PM
