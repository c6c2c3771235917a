/- Joined texts (Ax Bq Br): the machine, the contracts, the laws. Conditions: none but those that each names. -/
import Derived.Test.YthgaoncndnkcmaaDoorJd
set_option linter.unusedSimpArgs false
set_option linter.unusedVariables false
namespace Go.PM
open Go.Proofs
attribute [local irreducible] W PCalls pcall pcallI WL
set_option maxRecDepth 100000
set_option maxHeartbeats 8000000
theorem lineF_small {t : List UInt8} {x : Ltr} {b : List UInt8} (ht : t.length ≤ 65536) (h : lineF t = some (x, b)) : smallL x := by
  by_cases h5 : (splitF 32 t).length = 5
  · obtain ⟨y, c, m, k, w, hsp⟩ := five h5
    rw [lineF_five hsp] at h
    have hle := splitF_mem 32 t
    rw [hsp] at hle
    split at h
    · cases h
    · split at h
      · have := hle y (by simp)
        cases h
        exact ⟨by simp only; omega, numF_bd m, numF_bd k, numF_bd w⟩
      · cases h
  · rw [lineF_not h5] at h
    cases h
theorem rparse_c (G : Globs) (s : List UInt8) : PCalls Tryd.prog G 20 [pstr s] [] (fun res H => ∃ o, res = .tuple [o, pint .i64 (parseF s).2.1, pint .i64 (parseF s).2.2] ∧ CRL (parseF s).1 o H) := by
  by_cases hs : s.length ≤ 65536
  · have cs := rcut_c G s 10 (by omega)
    have cs : PCalls Tryd.prog G 43 [pstr s, .val (.int .u8 10)] [] _ := cs
    (refine PCalls_f Tryd.func20 rfl Tryd.ntmps20 Tryd.results20 (by simp) fun fin hfin => ?_; have hnm : True := trivial; simp (maxSteps := 2000000) (disch := omega) only [evb, evd, pbuiltin, constPV, pnck, seqK, blockK, scopeK, pbin, pun, ppick, plen, piaddr, pindex, pfield, pslice, pbound, pconv, pelems, pextract, pmm, PV.mem?, PV.one, PV.cells, pageq, peqs, peq1, pmakes, pstore, pbytes, pmark, pusd, pust, psrc, pkey, pnile, pcap, pgrow, List.set, Value.cells, ↓popG_eq, ↓pop.eq_1, ↓List.getElem?_map, ↓List.getElem?_cons_zero, ↓List.getElem?_cons_succ, Value.oneCell', Nat.reduceAdd, Nat.reduceMul, Nat.reduceSub, Nat.reduceLeDiff, Nat.reduceEqDiff, ↓reduceIte, ne_eq, reduceCtorEq, forall_const, exists_and_left, exists_eq_left', eq_self, Nat.reduceLT, Int.reduceLT, Int.reduceLE, Int.reduceToNat, Int.reduceAdd, Int.reduceSub, Int.reduceNeg, hnm, Tryd.tf0, Tryd.tf1, Tryd.tf2, Tryd.tf3, Tryd.tf4, Tryd.tf5, Tryd.tf9, Tryd.tf23, Tryd.tf26, Tryd.tf36, Tryd.tf45, Tryd.teq45, Tryd.tf66, Tryd.teq94, Tryd.teq104, Tryd.teq113, Tryd.teq114, Tryd.call34, Tryd.call43, Tryd.call44])
    repeat' (first
    | (with_reducible apply W_seq_k; intro nx hnx)
    | (with_reducible first | apply W_block | apply W_scope)
    | (with_reducible refine W_prune 16381 ?_; simp only [prb, Nat.reducePow, Nat.reduceDiv, Nat.reduceMod, Nat.reduceBEq]; first | (with_reducible apply W_region_l) | with_reducible refine W_region_draw (id := 20) 1 (.op 0 true (.op 1 true (.op 2 true (.op 3 true (.op 4 true (.op 5 true (.op 6 true (.op 7 true (.op 8 true (.op 9 true (.op 10 true (.op 11 true (.op 12 true (.op 13 true (.op 14 true (.op 15 true (.done))))))))))))))))) (by kernel_rfl) ?_)
    | ((first | (with_reducible apply WL_op; intro nx hnx) | with_reducible refine Ev_out ?_ | (with_reducible apply popsD_op; intro nx hnx) | (with_reducible refine popsD_alt ?_ ?_; intro nx hnx) | (with_reducible refine pfresh_k hnm fun nm hnm => ?_; (try simp only [fmb] at hnm)) | (with_reducible refine pborn_mu hnm fun nm hnm => ?_; (try simp only [fmb] at hnm)) | (with_reducible refine pmaybe_k ?_; intro bn hbn)); try (simp (maxSteps := 2000000) (disch := omega) only [evb, evd, pbuiltin, constPV, pnck, seqK, blockK, scopeK, pbin, pun, ppick, plen, piaddr, pindex, pfield, pslice, pbound, pconv, pelems, pextract, pmm, PV.mem?, PV.one, PV.cells, pageq, peqs, peq1, pmakes, pstore, pbytes, pmark, pusd, pust, psrc, pkey, pnile, pcap, pgrow, List.set, Value.cells, ↓popG_eq, ↓pop.eq_1, ↓List.getElem?_map, ↓List.getElem?_cons_zero, ↓List.getElem?_cons_succ, Value.oneCell', Nat.reduceAdd, Nat.reduceMul, Nat.reduceSub, Nat.reduceLeDiff, Nat.reduceEqDiff, ↓reduceIte, ne_eq, reduceCtorEq, forall_const, exists_and_left, exists_eq_left', eq_self, Nat.reduceLT, Int.reduceLT, Int.reduceLE, Int.reduceToNat, Int.reduceAdd, Int.reduceSub, Int.reduceNeg, hnm, Tryd.tf0, Tryd.tf1, Tryd.tf2, Tryd.tf3, Tryd.tf4, Tryd.tf5, Tryd.tf9, Tryd.tf23, Tryd.tf26, Tryd.tf36, Tryd.tf45, Tryd.teq45, Tryd.tf66, Tryd.teq94, Tryd.teq104, Tryd.teq113, Tryd.teq114, Tryd.call34, Tryd.call43, Tryd.call44]); repeat (refine And.intro (by omega) ?_))
    | ((with_reducible first | apply WL_nil | apply W_label | apply W_skip | apply W_exit | apply W_ret | apply popsD_done); try simp only [seqK, blockK, scopeK, ↓reduceIte, Nat.reduceEqDiff])
    | with_reducible exact popsD_stop
    | (with_reducible apply pguard_intro <;> (intro hc; (try simp only [hcb, reduceCtorEq, forall_const, ne_eq] at hc); first | (exfalso; omega) | (exfalso; exact hc trivial) | refine Ev_in ?_))
    | (with_reducible apply W_cond_k; intro _ _ ea eb; (simp only [condK, cob, opnd, constPV, Nat.reduceEqDiff, Nat.reduceLT, ↓reduceIte, hcb, reduceCtorEq, forall_const, ne_eq]); subst ea eb; first | (refine ⟨fun hc => ?_, fun hc => ?_⟩ <;> first | (exfalso; omega) | (exfalso; exact hc trivial) | skip) | skip)
    | (with_reducible apply hnx; clear hnx nx)
    | (with_reducible refine And.intro (by omega) ?_)
    | (with_reducible refine And.intro ?_ ?_)
    | (with_reducible refine pcall_k (cs) ?_; rintro _ _ ⟨rfl, rfl⟩ -; refine Ev_in ?_)
    | (clear hnx nx; with_reducible apply hnx; clear hnx nx)
    | (clear hnx nx; clear hnx nx; with_reducible apply hnx; clear hnx nx)
    | (clear hnx nx; clear hnx nx; clear hnx nx; with_reducible apply hnx; clear hnx nx))
    all_goals first | exact absurd trivial hc | contradiction | exact fun h => False.elim h | (exfalso; omega) | (exfalso; have hc := of_decide_eq_false hc; omega) | (exfalso; simp only [Bool.not_false, Bool.not_true, decide_eq_true_eq, decide_eq_false_iff_not] at *; omega) | skip
    have hll := splitF_len 10 s
    have hcc : s.count 10 ≤ s.length := List.count_le_length
    have hmem := splitF_mem 10 s
    obtain ⟨L, hL⟩ : ∃ L, L = splitF 10 s := ⟨_, rfl⟩
    rw [← hL] at hll hmem
    rw [← hL]
    refine W_adopt_f 6 45 5 (by simp only [fr_getD_cons, Nat.reduceEqDiff, Nat.reduceLT, ↓reduceIte]) fun A0 hA => ?_
    refine W_adopt_f 7 9 1 (by simp only [fr_getD_cons, Nat.reduceEqDiff, Nat.reduceLT, ↓reduceIte]) fun B0 hB => ?_
    have hAB : (B0 = A0) = False ∧ (A0 = B0) = False := by
      simp only [names, List.map_cons, List.map_nil, List.mem_cons, List.not_mem_nil, or_false] at hB
      exact ⟨eq_false hB, eq_false fun e => hB e.symm⟩
    refine W_loop_k (fun z τ => ∃ (i : Nat) (xs : List (Ltr × List UInt8)) (A B : Int), ((B = A) = False ∧ (A = B) = False) ∧ z = L.length - 1 - i ∧ i ≤ L.length - 1 ∧ xs.length = i ∧ readL L = (xs ++ (readL (L.drop i)).1, (readL (L.drop i)).2) ∧ (∀ x ∈ xs, smallL x.1) ∧
        τ = ⟨fr 95 [(8, pn i), (7, .row B 1 i), (6, .row A 5 i), (5, .list 1 (L.map pstr))], [(B, ⟨9, true, 1, secs xs⟩), (A, ⟨45, true, 5, flatL (xs.map Prod.fst)⟩)]⟩) (L.length - 1)
      ⟨fr 95 [(8, pn 0), (7, .row B0 1 0), (6, .row A0 5 0), (5, .list 1 (L.map pstr))], [(B0, ⟨9, true, 1, []⟩), (A0, ⟨45, true, 5, []⟩)]⟩ (by
      refine Wk_fr (by simp only [wkb, Nat.reduceEqDiff, Nat.reduceLT, ↓reduceIte, pn]) ?_
      exact Sub_refl (by simp [names, hAB])) ⟨0, [], A0, B0, hAB, by omega, by omega, rfl, by simp, by simp, rfl⟩ ?_
    clear hAB hB hA hnm
    have hnm : True := trivial
    rintro z τ ⟨i, xs, A, B, hAB, rfl, hi, hxi, hrd, hsm, rfl⟩ lp hlp
    have hfl : (flatL (xs.map Prod.fst)).length = i * 5 := by rw [flatL_len, List.length_map, hxi]
    have hlx : (secs xs).length = i := by rw [← hxi]; exact List.length_map ..
    by_cases hil : i < L.length - 1
    · have hil2 : i < L.length := by omega
      have hgl : L[i]? = some L[i] := List.getElem?_eq_getElem hil2
      have hti := hmem L[i] (List.getElem_mem hil2)
      have hdr : L.drop i = L[i] :: L.drop (i + 1) := List.drop_eq_getElem_cons hil2
      have hne : L.drop (i + 1) ≠ [] := by
        intro h
        have := congrArg List.length h
        rw [List.length_drop] at this
        simp at this
        omega
      have cl := rline_c G L[i] (by omega)
      have hsnoc2 : ∀ x : Ltr × List UInt8, secs (xs ++ [x]) = secs xs ++ [pstr x.2] := fun x => by simp [secs]
      have hsnoc1 : ∀ x : Ltr × List UInt8, flatL ((xs ++ [x]).map Prod.fst) = flatL (xs.map Prod.fst) ++ cellL x.1 := fun x => by
        rw [List.map_append]
        exact flatL_snoc _ _
      obtain ⟨t, ht⟩ : ∃ t, t = L[i] := ⟨_, rfl⟩
      rw [← ht] at hti hdr cl hgl
      repeat' (first
    | (with_reducible apply W_seq_k; intro nx hnx)
    | (with_reducible first | apply W_block | apply W_scope)
    | (with_reducible refine W_prune 16381 ?_; simp only [prb, Nat.reducePow, Nat.reduceDiv, Nat.reduceMod, Nat.reduceBEq]; first | (with_reducible apply W_region_l) | with_reducible refine W_region_draw (id := 20) 1 (.op 0 true (.op 1 true (.op 2 true (.op 3 true (.op 4 true (.op 5 true (.op 6 true (.op 7 true (.op 8 true (.op 9 true (.op 10 true (.op 11 true (.op 12 true (.op 13 true (.op 14 true (.op 15 true (.done))))))))))))))))) (by kernel_rfl) ?_)
    | ((first | (with_reducible apply WL_op; intro nx hnx) | with_reducible refine Ev_out ?_ | (with_reducible apply popsD_op; intro nx hnx) | (with_reducible refine popsD_alt ?_ ?_; intro nx hnx) | (with_reducible refine pfresh_k hnm fun nm hnm => ?_; (try simp only [fmb] at hnm)) | (with_reducible refine pborn_mu hnm fun nm hnm => ?_; (try simp only [fmb] at hnm)) | (with_reducible refine pmaybe_k ?_; intro bn hbn)); try (simp (maxSteps := 2000000) (disch := omega) only [evb, evd, pbuiltin, constPV, pnck, seqK, blockK, scopeK, pbin, pun, ppick, plen, piaddr, pindex, pfield, pslice, pbound, pconv, pelems, pextract, pmm, PV.mem?, PV.one, PV.cells, pageq, peqs, peq1, pmakes, pstore, pbytes, pmark, pusd, pust, psrc, pkey, pnile, pcap, pgrow, List.set, Value.cells, ↓popG_eq, ↓pop.eq_1, ↓List.getElem?_map, ↓List.getElem?_cons_zero, ↓List.getElem?_cons_succ, Value.oneCell', Nat.reduceAdd, Nat.reduceMul, Nat.reduceSub, Nat.reduceLeDiff, Nat.reduceEqDiff, ↓reduceIte, ne_eq, reduceCtorEq, forall_const, exists_and_left, exists_eq_left', eq_self, Nat.reduceLT, Int.reduceLT, Int.reduceLE, Int.reduceToNat, Int.reduceAdd, Int.reduceSub, Int.reduceNeg, hnm, Tryd.tf0, Tryd.tf1, Tryd.tf2, Tryd.tf3, Tryd.tf4, Tryd.tf5, Tryd.tf9, Tryd.tf23, Tryd.tf26, Tryd.tf36, Tryd.tf45, Tryd.teq45, Tryd.tf66, Tryd.teq94, Tryd.teq104, Tryd.teq113, Tryd.teq114, Tryd.call34, Tryd.call43, Tryd.call44, hAB, hgl, hfl, hlx, ← ht]); repeat (refine And.intro (by omega) ?_))
    | ((with_reducible first | apply WL_nil | apply W_label | apply W_skip | apply W_exit | apply W_ret | apply popsD_done); try simp only [seqK, blockK, scopeK, ↓reduceIte, Nat.reduceEqDiff])
    | with_reducible exact popsD_stop
    | (with_reducible apply pguard_intro <;> (intro hc; (try simp only [hcb, reduceCtorEq, forall_const, ne_eq] at hc); first | (exfalso; omega) | (exfalso; exact hc trivial) | refine Ev_in ?_))
    | (with_reducible apply W_cond_k; intro _ _ ea eb; (simp only [condK, cob, opnd, constPV, Nat.reduceEqDiff, Nat.reduceLT, ↓reduceIte, hcb, reduceCtorEq, forall_const, ne_eq]); subst ea eb; first | (refine ⟨fun hc => ?_, fun hc => ?_⟩ <;> first | (exfalso; omega) | (exfalso; exact hc trivial) | skip) | skip)
    | (with_reducible apply hnx; clear hnx nx)
    | (with_reducible refine And.intro (by omega) ?_)
    | (with_reducible refine And.intro ?_ ?_)
    | ((with_reducible refine pcall_k cl ?_; rintro _ _ ⟨(⟨hn, x, b, rfl⟩ | ⟨x, b, hln, rfl⟩), rfl⟩ - <;> refine Ev_in ?_))
    | (clear hnx nx; with_reducible apply hnx; clear hnx nx)
    | (clear hnx nx; clear hnx nx; with_reducible apply hnx; clear hnx nx)
    | (clear hnx nx; clear hnx nx; clear hnx nx; with_reducible apply hnx; clear hnx nx))
      all_goals first | exact absurd trivial hc | contradiction | exact fun h => False.elim h | (exfalso; omega) | (exfalso; have hc := of_decide_eq_false hc; omega) | (exfalso; simp only [Bool.not_false, Bool.not_true, decide_eq_true_eq, decide_eq_false_iff_not] at *; omega) | skip
      · rw [hdr, readL_none hne hn, List.append_nil] at hrd
        refine hfin _ _ (Fin_ret3 rfl rfl rfl (Sub_nil _) ?_); simp only [List.getD_cons_zero, List.getD_cons_succ, fr_getD_cons, fr_getD_nil, Nat.reduceEqDiff, Nat.reduceLT, ↓reduceIte]
        rw [parseF_bad hs (by rw [← hL]; exact hrd), hxi]
        exact ⟨pnil, rfl, .inl ⟨rfl, rfl, by trivial⟩⟩
      · rw [hdr, readL_some hne hln, List.append_cons] at hrd
        rename_i N3 g3 N2 g2 N1 g1 N0 g0
        refine hlp _ (L.length - 1 - (i + 1)) ⟨fr 95 [(8, pn (i + 1)), (7, .row nm 1 (i + 1)), (6, .row N1 5 (i + 1)), (5, .list 1 (L.map pstr))], [(nm, ⟨9, true, 1, secs (xs ++ [(x, b)])⟩), (N1, ⟨45, true, 5, flatL ((xs ++ [(x, b)]).map Prod.fst)⟩)]⟩ (by omega) ?_ ⟨i + 1, xs ++ [(x, b)], N1, nm, by simp [hnm], rfl, by omega, by simp; omega, hrd, ?_, rfl⟩
        · rw [hsnoc1, hsnoc2]
          refine Wk_fr (by simp only [wkb, Nat.reduceEqDiff, Nat.reduceLT, ↓reduceIte, pn]) ?_
          refine ⟨fun x hx => ?_, by simp [names, hnm]⟩
          simp only [List.mem_cons, List.not_mem_nil, or_false] at hx ⊢
          rcases hx with rfl | rfl
          · exact .inl rfl
          · exact .inr (.inr (.inl rfl))
        · intro y hy
          rw [List.mem_append, List.mem_singleton] at hy
          rcases hy with hy | rfl
          · exact hsm y hy
          · exact lineF_small (by omega) hln
    · have hi2 : i = L.length - 1 := by omega
      have hil2 : i < L.length := by omega
      have hgl : L[i]? = some L[i] := List.getElem?_eq_getElem hil2
      have hdr : L.drop i = [L[i]] := by
        rw [List.drop_eq_getElem_cons hil2, List.drop_of_length_le (by omega)]
      have e1 : ((L.length : Int) - 1).toNat = i := by omega
      have e2 : ((L.length : Int) - 1) = i := by omega
      rw [hdr] at hrd
      obtain ⟨t, ht⟩ : ∃ t, t = L[i] := ⟨_, rfl⟩
      rw [← ht] at hdr hrd hgl
      repeat' (first
    | (with_reducible apply W_seq_k; intro nx hnx)
    | (with_reducible first | apply W_block | apply W_scope)
    | (with_reducible refine W_prune 16381 ?_; simp only [prb, Nat.reducePow, Nat.reduceDiv, Nat.reduceMod, Nat.reduceBEq]; first | (with_reducible apply W_region_l) | with_reducible refine W_region_draw (id := 20) 1 (.op 0 true (.op 1 true (.op 2 true (.op 3 true (.op 4 true (.op 5 true (.op 6 true (.op 7 true (.op 8 true (.op 9 true (.op 10 true (.op 11 true (.op 12 true (.op 13 true (.op 14 true (.op 15 true (.done))))))))))))))))) (by kernel_rfl) ?_)
    | ((first | (with_reducible apply WL_op; intro nx hnx) | with_reducible refine Ev_out ?_ | (with_reducible apply popsD_op; intro nx hnx) | (with_reducible refine popsD_alt ?_ ?_; intro nx hnx) | (with_reducible refine pfresh_k hnm fun nm hnm => ?_; (try simp only [fmb] at hnm)) | (with_reducible refine pborn_mu hnm fun nm hnm => ?_; (try simp only [fmb] at hnm)) | (with_reducible refine pmaybe_k ?_; intro bn hbn)); try (simp (maxSteps := 2000000) (disch := omega) only [evb, evd, pbuiltin, constPV, pnck, seqK, blockK, scopeK, pbin, pun, ppick, plen, piaddr, pindex, pfield, pslice, pbound, pconv, pelems, pextract, pmm, PV.mem?, PV.one, PV.cells, pageq, peqs, peq1, pmakes, pstore, pbytes, pmark, pusd, pust, psrc, pkey, pnile, pcap, pgrow, List.set, Value.cells, ↓popG_eq, ↓pop.eq_1, ↓List.getElem?_map, ↓List.getElem?_cons_zero, ↓List.getElem?_cons_succ, Value.oneCell', Nat.reduceAdd, Nat.reduceMul, Nat.reduceSub, Nat.reduceLeDiff, Nat.reduceEqDiff, ↓reduceIte, ne_eq, reduceCtorEq, forall_const, exists_and_left, exists_eq_left', eq_self, Nat.reduceLT, Int.reduceLT, Int.reduceLE, Int.reduceToNat, Int.reduceAdd, Int.reduceSub, Int.reduceNeg, hnm, Tryd.tf0, Tryd.tf1, Tryd.tf2, Tryd.tf3, Tryd.tf4, Tryd.tf5, Tryd.tf9, Tryd.tf23, Tryd.tf26, Tryd.tf36, Tryd.tf45, Tryd.teq45, Tryd.tf66, Tryd.teq94, Tryd.teq104, Tryd.teq113, Tryd.teq114, Tryd.call34, Tryd.call43, Tryd.call44, hAB, hgl, hfl, hlx, e1, e2, ← ht]); repeat (refine And.intro (by omega) ?_))
    | ((with_reducible first | apply WL_nil | apply W_label | apply W_skip | apply W_exit | apply W_ret | apply popsD_done); try simp only [seqK, blockK, scopeK, ↓reduceIte, Nat.reduceEqDiff])
    | with_reducible exact popsD_stop
    | (with_reducible apply pguard_intro <;> (intro hc; (try simp only [hcb, reduceCtorEq, forall_const, ne_eq] at hc); first | (exfalso; omega) | (exfalso; exact hc trivial) | refine Ev_in ?_))
    | (with_reducible apply W_cond_k; intro _ _ ea eb; (simp only [condK, cob, opnd, constPV, Nat.reduceEqDiff, Nat.reduceLT, ↓reduceIte, hcb, reduceCtorEq, forall_const, ne_eq]); subst ea eb; first | (refine ⟨fun hc => ?_, fun hc => ?_⟩ <;> first | (exfalso; omega) | (exfalso; exact hc trivial) | skip) | skip)
    | (with_reducible apply hnx; clear hnx nx)
    | (with_reducible refine And.intro (by omega) ?_)
    | (with_reducible refine And.intro ?_ ?_)
    | (clear hnx nx; with_reducible apply hnx; clear hnx nx)
    | (clear hnx nx; clear hnx nx; with_reducible apply hnx; clear hnx nx)
    | (clear hnx nx; clear hnx nx; clear hnx nx; with_reducible apply hnx; clear hnx nx))
      all_goals first | exact absurd trivial hc | contradiction | exact fun h => False.elim h | (exfalso; omega) | (exfalso; have hc := of_decide_eq_false hc; omega) | (exfalso; simp only [Bool.not_false, Bool.not_true, decide_eq_true_eq, decide_eq_false_iff_not] at *; omega) | skip
      · have : readL [t] = ([], false) := by simp [readL, hc]
        rw [this, List.append_nil] at hrd
        have e3 : (L.length : Int) = (i : Int) + 1 := by omega
        refine hfin _ _ (Fin_ret3 rfl rfl rfl (Sub_nil _) ?_); simp only [List.getD_cons_zero, List.getD_cons_succ, fr_getD_cons, fr_getD_nil, Nat.reduceEqDiff, Nat.reduceLT, ↓reduceIte]
        rw [parseF_bad hs (by rw [← hL]; exact hrd), hxi, e3]
        exact ⟨pnil, rfl, .inl ⟨rfl, rfl, by trivial⟩⟩
      · have : readL [t] = ([], true) := by simp [readL, hc]
        rw [this, List.append_nil] at hrd
        subst hxi
        have hxb : xs.length ≤ 65536 := by omega
        clear hi2 hc ht hgl hdr e1 e2 hil hi hil2
        refine W_loop_k (fun z τ => ∃ i : Nat, i ≤ xs.length ∧ z = xs.length - i ∧ (∀ x ∈ xs.take i, (findT (xs.map Prod.fst) x.2).isSome = true) ∧ τ = ⟨fr 95 [(12, pn i), (7, .row B 1 xs.length), (6, .row A 5 xs.length)], [(A, ⟨45, true, 5, flatL (upto xs i)⟩), (B, ⟨9, true, 1, secs xs⟩)]⟩) xs.length
          ⟨fr 95 [(12, pn 0), (7, .row B 1 xs.length), (6, .row A 5 xs.length)], [(A, ⟨45, true, 5, flatL (upto xs 0)⟩), (B, ⟨9, true, 1, secs xs⟩)]⟩ (by
          rw [upto_zero]
          refine Wk_fr (by simp only [wkb, Nat.reduceEqDiff, Nat.reduceLT, ↓reduceIte, pn]) ?_
          refine ⟨fun x hx => ?_, by simp [names, hAB]⟩
          simp only [List.mem_cons, List.not_mem_nil, or_false] at hx ⊢
          rcases hx with rfl | rfl
          · exact .inr rfl
          · exact .inl rfl) ⟨0, by omega, by omega, by simp, rfl⟩ ?_
        rintro z τ ⟨i, hi, rfl, hsome, rfl⟩ lp2 hlp2
        have hul := upto_len hi
        have hfl := flatL_len (upto xs i)
        rw [hul] at hfl
        by_cases hil : i < xs.length
        · have hgb : (secs xs)[i]? = some (pstr xs[i].2) := by unfold secs; rw [List.getElem?_map, List.getElem?_eq_getElem hil]; rfl
          repeat' (first
    | (with_reducible apply W_seq_k; intro nx hnx)
    | (with_reducible first | apply W_block | apply W_scope)
    | (with_reducible refine W_prune 16381 ?_; simp only [prb, Nat.reducePow, Nat.reduceDiv, Nat.reduceMod, Nat.reduceBEq]; first | (with_reducible apply W_region_l) | with_reducible refine W_region_draw (id := 20) 1 (.op 0 true (.op 1 true (.op 2 true (.op 3 true (.op 4 true (.op 5 true (.op 6 true (.op 7 true (.op 8 true (.op 9 true (.op 10 true (.op 11 true (.op 12 true (.op 13 true (.op 14 true (.op 15 true (.done))))))))))))))))) (by kernel_rfl) ?_)
    | ((first | (with_reducible apply WL_op; intro nx hnx) | with_reducible refine Ev_out ?_ | (with_reducible apply popsD_op; intro nx hnx) | (with_reducible refine popsD_alt ?_ ?_; intro nx hnx) | (with_reducible refine pfresh_k hnm fun nm hnm => ?_; (try simp only [fmb] at hnm)) | (with_reducible refine pborn_mu hnm fun nm hnm => ?_; (try simp only [fmb] at hnm)) | (with_reducible refine pmaybe_k ?_; intro bn hbn)); try (simp (maxSteps := 2000000) (disch := omega) only [evb, evd, pbuiltin, constPV, pnck, seqK, blockK, scopeK, pbin, pun, ppick, plen, piaddr, pindex, pfield, pslice, pbound, pconv, pelems, pextract, pmm, PV.mem?, PV.one, PV.cells, pageq, peqs, peq1, pmakes, pstore, pbytes, pmark, pusd, pust, psrc, pkey, pnile, pcap, pgrow, List.set, Value.cells, ↓popG_eq, ↓pop.eq_1, ↓List.getElem?_map, ↓List.getElem?_cons_zero, ↓List.getElem?_cons_succ, Value.oneCell', Nat.reduceAdd, Nat.reduceMul, Nat.reduceSub, Nat.reduceLeDiff, Nat.reduceEqDiff, ↓reduceIte, ne_eq, reduceCtorEq, forall_const, exists_and_left, exists_eq_left', eq_self, Nat.reduceLT, Int.reduceLT, Int.reduceLE, Int.reduceToNat, Int.reduceAdd, Int.reduceSub, Int.reduceNeg, hnm, Tryd.tf0, Tryd.tf1, Tryd.tf2, Tryd.tf3, Tryd.tf4, Tryd.tf5, Tryd.tf9, Tryd.tf23, Tryd.tf26, Tryd.tf36, Tryd.tf45, Tryd.teq45, Tryd.tf66, Tryd.teq94, Tryd.teq104, Tryd.teq113, Tryd.teq114, Tryd.call34, Tryd.call43, Tryd.call44, hAB, hfl, hlx]); repeat (refine And.intro (by omega) ?_))
    | ((with_reducible first | apply WL_nil | apply W_label | apply W_skip | apply W_exit | apply W_ret | apply popsD_done); try simp only [seqK, blockK, scopeK, ↓reduceIte, Nat.reduceEqDiff])
    | with_reducible exact popsD_stop
    | (with_reducible apply pguard_intro <;> (intro hc; (try simp only [hcb, reduceCtorEq, forall_const, ne_eq] at hc); first | (exfalso; omega) | (exfalso; exact hc trivial) | refine Ev_in ?_))
    | (with_reducible apply W_cond_k; intro _ _ ea eb; (simp only [condK, cob, opnd, constPV, Nat.reduceEqDiff, Nat.reduceLT, ↓reduceIte, hcb, reduceCtorEq, forall_const, ne_eq]); subst ea eb; first | (refine ⟨fun hc => ?_, fun hc => ?_⟩ <;> first | (exfalso; omega) | (exfalso; exact hc trivial) | skip) | skip)
    | (with_reducible apply hnx; clear hnx nx)
    | (with_reducible refine And.intro (by omega) ?_)
    | (with_reducible refine And.intro ?_ ?_)
    | (clear hnx nx; with_reducible apply hnx; clear hnx nx)
    | (clear hnx nx; clear hnx nx; with_reducible apply hnx; clear hnx nx)
    | (clear hnx nx; clear hnx nx; clear hnx nx; with_reducible apply hnx; clear hnx nx))
          all_goals first | exact absurd trivial hc | contradiction | exact fun h => False.elim h | (exfalso; omega) | (exfalso; have hc := of_decide_eq_false hc; omega) | (exfalso; simp only [Bool.not_false, Bool.not_true, decide_eq_true_eq, decide_eq_false_iff_not] at *; omega) | skip
          refine W_loop_k (fun z τ => ∃ k : Nat, k ≤ xs.length ∧ z = xs.length - k ∧ (∀ x ∈ (upto xs i).take k, ¬ x.text = xs[i].2) ∧ τ = ⟨fr 95 [(13, pn k), (12, pn i), (7, .row B 1 xs.length), (6, .row A 5 xs.length)], [(A, ⟨45, true, 5, flatL (upto xs i)⟩), (B, ⟨9, true, 1, secs xs⟩)]⟩) xs.length
            ⟨fr 95 [(13, pn 0), (12, pn i), (7, .row B 1 xs.length), (6, .row A 5 xs.length)], [(A, ⟨45, true, 5, flatL (upto xs i)⟩), (B, ⟨9, true, 1, secs xs⟩)]⟩ (by
            refine Wk_fr (by simp only [wkb, Nat.reduceEqDiff, Nat.reduceLT, ↓reduceIte, pn]) ?_
            exact Sub_refl (by simp [names, hAB])) ⟨0, by omega, by omega, by simp, rfl⟩ ?_
          rintro z τ ⟨k, hk, rfl, hno, rfl⟩ lp3 hlp3
          by_cases hkl : k < xs.length
          · have hgk : (flatL (upto xs i))[k * 5]? = some (pstr ((upto xs i)[k]'(by omega)).text) := flatL_get (l := upto xs i) (i := k) (by omega) 0 (by omega)
            obtain ⟨u, hu⟩ : ∃ u, u = ((upto xs i)[k]'(by omega)).text := ⟨_, rfl⟩
            rw [← hu] at hgk
            by_cases hue : u = xs[i].2
            · have hfk : findT (xs.map Prod.fst) xs[i].2 = some k := by
                rw [← findT_texts (upto_texts hi)]
                exact findT_some (by omega) (by rw [← hu, hue]) hno
              have hbase := flatL_base (l := upto xs i) (i := i) (by omega) k
              rw [upto_step hil hfk (by omega)] at hbase
              repeat' (first
    | (with_reducible apply W_seq_k; intro nx hnx)
    | (with_reducible first | apply W_block | apply W_scope)
    | (with_reducible refine W_prune 16381 ?_; simp only [prb, Nat.reducePow, Nat.reduceDiv, Nat.reduceMod, Nat.reduceBEq]; first | (with_reducible apply W_region_l) | with_reducible refine W_region_draw (id := 20) 1 (.op 0 true (.op 1 true (.op 2 true (.op 3 true (.op 4 true (.op 5 true (.op 6 true (.op 7 true (.op 8 true (.op 9 true (.op 10 true (.op 11 true (.op 12 true (.op 13 true (.op 14 true (.op 15 true (.done))))))))))))))))) (by kernel_rfl) ?_)
    | ((first | (with_reducible apply WL_op; intro nx hnx) | with_reducible refine Ev_out ?_ | (with_reducible apply popsD_op; intro nx hnx) | (with_reducible refine popsD_alt ?_ ?_; intro nx hnx) | (with_reducible refine pfresh_k hnm fun nm hnm => ?_; (try simp only [fmb] at hnm)) | (with_reducible refine pborn_mu hnm fun nm hnm => ?_; (try simp only [fmb] at hnm)) | (with_reducible refine pmaybe_k ?_; intro bn hbn)); try (simp (maxSteps := 2000000) (disch := omega) only [evb, evd, pbuiltin, constPV, pnck, seqK, blockK, scopeK, pbin, pun, ppick, plen, piaddr, pindex, pfield, pslice, pbound, pconv, pelems, pextract, pmm, PV.mem?, PV.one, PV.cells, pageq, peqs, peq1, pmakes, pstore, pbytes, pmark, pusd, pust, psrc, pkey, pnile, pcap, pgrow, List.set, Value.cells, ↓popG_eq, ↓pop.eq_1, ↓List.getElem?_map, ↓List.getElem?_cons_zero, ↓List.getElem?_cons_succ, Value.oneCell', Nat.reduceAdd, Nat.reduceMul, Nat.reduceSub, Nat.reduceLeDiff, Nat.reduceEqDiff, ↓reduceIte, ne_eq, reduceCtorEq, forall_const, exists_and_left, exists_eq_left', eq_self, Nat.reduceLT, Int.reduceLT, Int.reduceLE, Int.reduceToNat, Int.reduceAdd, Int.reduceSub, Int.reduceNeg, hnm, Tryd.tf0, Tryd.tf1, Tryd.tf2, Tryd.tf3, Tryd.tf4, Tryd.tf5, Tryd.tf9, Tryd.tf23, Tryd.tf26, Tryd.tf36, Tryd.tf45, Tryd.teq45, Tryd.tf66, Tryd.teq94, Tryd.teq104, Tryd.teq113, Tryd.teq114, Tryd.call34, Tryd.call43, Tryd.call44, hAB, hgb, hgk, hfl, hlx, hue, hbase]); repeat (refine And.intro (by omega) ?_))
    | ((with_reducible first | apply WL_nil | apply W_label | apply W_skip | apply W_exit | apply W_ret | apply popsD_done); try simp only [seqK, blockK, scopeK, ↓reduceIte, Nat.reduceEqDiff])
    | with_reducible exact popsD_stop
    | (with_reducible apply pguard_intro <;> (intro hc; (try simp only [hcb, reduceCtorEq, forall_const, ne_eq] at hc); first | (exfalso; omega) | (exfalso; exact hc trivial) | refine Ev_in ?_))
    | (with_reducible apply W_cond_k; intro _ _ ea eb; (simp only [condK, cob, opnd, constPV, Nat.reduceEqDiff, Nat.reduceLT, ↓reduceIte, hcb, reduceCtorEq, forall_const, ne_eq]); subst ea eb; first | (refine ⟨fun hc => ?_, fun hc => ?_⟩ <;> first | (exfalso; omega) | (exfalso; exact hc trivial) | skip) | skip)
    | (with_reducible apply hnx; clear hnx nx)
    | (with_reducible refine And.intro (by omega) ?_)
    | (with_reducible refine And.intro ?_ ?_)
    | (clear hnx nx; with_reducible apply hnx; clear hnx nx)
    | (clear hnx nx; clear hnx nx; with_reducible apply hnx; clear hnx nx)
    | (clear hnx nx; clear hnx nx; clear hnx nx; with_reducible apply hnx; clear hnx nx))
              all_goals first | exact absurd trivial hc | contradiction | exact fun h => False.elim h | (exfalso; omega) | (exfalso; have hc := of_decide_eq_false hc; omega) | (exfalso; simp only [Bool.not_false, Bool.not_true, decide_eq_true_eq, decide_eq_false_iff_not] at *; omega) | skip
              refine hlp2 _ (xs.length - (i + 1)) ⟨fr 95 [(12, pn (i + 1)), (7, .row B 1 xs.length), (6, .row A 5 xs.length)], [(A, ⟨45, true, 5, flatL (upto xs (i + 1))⟩), (B, ⟨9, true, 1, secs xs⟩)]⟩ (by omega) ?_ ⟨i + 1, by omega, rfl, ?_, rfl⟩
              · refine Wk_fr (by simp only [wkb, Nat.reduceEqDiff, Nat.reduceLT, ↓reduceIte, pn]) ?_
                exact Sub_refl (by simp [names, hAB])
              · intro x hx
                rw [List.take_add_one, List.getElem?_eq_getElem hil, List.mem_append] at hx
                rcases hx with hx | hx
                · exact hsome x hx
                · simp only [Option.toList_some, List.mem_singleton] at hx
                  rw [hx, hfk]
                  rfl
            · repeat' (first
    | (with_reducible apply W_seq_k; intro nx hnx)
    | (with_reducible first | apply W_block | apply W_scope)
    | (with_reducible refine W_prune 16381 ?_; simp only [prb, Nat.reducePow, Nat.reduceDiv, Nat.reduceMod, Nat.reduceBEq]; first | (with_reducible apply W_region_l) | with_reducible refine W_region_draw (id := 20) 1 (.op 0 true (.op 1 true (.op 2 true (.op 3 true (.op 4 true (.op 5 true (.op 6 true (.op 7 true (.op 8 true (.op 9 true (.op 10 true (.op 11 true (.op 12 true (.op 13 true (.op 14 true (.op 15 true (.done))))))))))))))))) (by kernel_rfl) ?_)
    | ((first | (with_reducible apply WL_op; intro nx hnx) | with_reducible refine Ev_out ?_ | (with_reducible apply popsD_op; intro nx hnx) | (with_reducible refine popsD_alt ?_ ?_; intro nx hnx) | (with_reducible refine pfresh_k hnm fun nm hnm => ?_; (try simp only [fmb] at hnm)) | (with_reducible refine pborn_mu hnm fun nm hnm => ?_; (try simp only [fmb] at hnm)) | (with_reducible refine pmaybe_k ?_; intro bn hbn)); try (simp (maxSteps := 2000000) (disch := omega) only [evb, evd, pbuiltin, constPV, pnck, seqK, blockK, scopeK, pbin, pun, ppick, plen, piaddr, pindex, pfield, pslice, pbound, pconv, pelems, pextract, pmm, PV.mem?, PV.one, PV.cells, pageq, peqs, peq1, pmakes, pstore, pbytes, pmark, pusd, pust, psrc, pkey, pnile, pcap, pgrow, List.set, Value.cells, ↓popG_eq, ↓pop.eq_1, ↓List.getElem?_map, ↓List.getElem?_cons_zero, ↓List.getElem?_cons_succ, Value.oneCell', Nat.reduceAdd, Nat.reduceMul, Nat.reduceSub, Nat.reduceLeDiff, Nat.reduceEqDiff, ↓reduceIte, ne_eq, reduceCtorEq, forall_const, exists_and_left, exists_eq_left', eq_self, Nat.reduceLT, Int.reduceLT, Int.reduceLE, Int.reduceToNat, Int.reduceAdd, Int.reduceSub, Int.reduceNeg, hnm, Tryd.tf0, Tryd.tf1, Tryd.tf2, Tryd.tf3, Tryd.tf4, Tryd.tf5, Tryd.tf9, Tryd.tf23, Tryd.tf26, Tryd.tf36, Tryd.tf45, Tryd.teq45, Tryd.tf66, Tryd.teq94, Tryd.teq104, Tryd.teq113, Tryd.teq114, Tryd.call34, Tryd.call43, Tryd.call44, hAB, hgb, hgk, hfl, hlx, hue]); repeat (refine And.intro (by omega) ?_))
    | ((with_reducible first | apply WL_nil | apply W_label | apply W_skip | apply W_exit | apply W_ret | apply popsD_done); try simp only [seqK, blockK, scopeK, ↓reduceIte, Nat.reduceEqDiff])
    | with_reducible exact popsD_stop
    | (with_reducible apply pguard_intro <;> (intro hc; (try simp only [hcb, reduceCtorEq, forall_const, ne_eq] at hc); first | (exfalso; omega) | (exfalso; exact hc trivial) | refine Ev_in ?_))
    | (with_reducible apply W_cond_k; intro _ _ ea eb; (simp only [condK, cob, opnd, constPV, Nat.reduceEqDiff, Nat.reduceLT, ↓reduceIte, hcb, reduceCtorEq, forall_const, ne_eq]); subst ea eb; first | (refine ⟨fun hc => ?_, fun hc => ?_⟩ <;> first | (exfalso; omega) | (exfalso; exact hc trivial) | skip) | skip)
    | (with_reducible apply hnx; clear hnx nx)
    | (with_reducible refine And.intro (by omega) ?_)
    | (with_reducible refine And.intro ?_ ?_)
    | (clear hnx nx; with_reducible apply hnx; clear hnx nx)
    | (clear hnx nx; clear hnx nx; with_reducible apply hnx; clear hnx nx)
    | (clear hnx nx; clear hnx nx; clear hnx nx; with_reducible apply hnx; clear hnx nx))
              all_goals first | exact absurd trivial hc | contradiction | exact fun h => False.elim h | (exfalso; omega) | (exfalso; have hc := of_decide_eq_false hc; omega) | (exfalso; simp only [Bool.not_false, Bool.not_true, decide_eq_true_eq, decide_eq_false_iff_not] at *; omega) | skip
              refine hlp3 _ (xs.length - (k + 1)) _ (by omega) ?_ ⟨k + 1, by omega, rfl, ?_, rfl⟩
              · refine Wk_fr (by simp only [wkb, Nat.reduceEqDiff, Nat.reduceLT, ↓reduceIte, pn]) ?_
                exact Sub_refl (by simp [names, hAB])
              · intro x hx
                rw [List.take_add_one, List.getElem?_eq_getElem (by omega), List.mem_append] at hx
                rcases hx with hx | hx
                · exact hno x hx
                · simp only [Option.toList_some, List.mem_singleton] at hx
                  rw [hx, ← hu]
                  exact hue
          · have hk2 : k = xs.length := by omega
            subst hk2
            rw [List.take_of_length_le (by omega)] at hno
            have hfk : findT (xs.map Prod.fst) xs[i].2 = none := by
              rw [← findT_texts (upto_texts hi)]
              exact findT_none hno
            repeat' (first
    | (with_reducible apply W_seq_k; intro nx hnx)
    | (with_reducible first | apply W_block | apply W_scope)
    | (with_reducible refine W_prune 16381 ?_; simp only [prb, Nat.reducePow, Nat.reduceDiv, Nat.reduceMod, Nat.reduceBEq]; first | (with_reducible apply W_region_l) | with_reducible refine W_region_draw (id := 20) 1 (.op 0 true (.op 1 true (.op 2 true (.op 3 true (.op 4 true (.op 5 true (.op 6 true (.op 7 true (.op 8 true (.op 9 true (.op 10 true (.op 11 true (.op 12 true (.op 13 true (.op 14 true (.op 15 true (.done))))))))))))))))) (by kernel_rfl) ?_)
    | ((first | (with_reducible apply WL_op; intro nx hnx) | with_reducible refine Ev_out ?_ | (with_reducible apply popsD_op; intro nx hnx) | (with_reducible refine popsD_alt ?_ ?_; intro nx hnx) | (with_reducible refine pfresh_k hnm fun nm hnm => ?_; (try simp only [fmb] at hnm)) | (with_reducible refine pborn_mu hnm fun nm hnm => ?_; (try simp only [fmb] at hnm)) | (with_reducible refine pmaybe_k ?_; intro bn hbn)); try (simp (maxSteps := 2000000) (disch := omega) only [evb, evd, pbuiltin, constPV, pnck, seqK, blockK, scopeK, pbin, pun, ppick, plen, piaddr, pindex, pfield, pslice, pbound, pconv, pelems, pextract, pmm, PV.mem?, PV.one, PV.cells, pageq, peqs, peq1, pmakes, pstore, pbytes, pmark, pusd, pust, psrc, pkey, pnile, pcap, pgrow, List.set, Value.cells, ↓popG_eq, ↓pop.eq_1, ↓List.getElem?_map, ↓List.getElem?_cons_zero, ↓List.getElem?_cons_succ, Value.oneCell', Nat.reduceAdd, Nat.reduceMul, Nat.reduceSub, Nat.reduceLeDiff, Nat.reduceEqDiff, ↓reduceIte, ne_eq, reduceCtorEq, forall_const, exists_and_left, exists_eq_left', eq_self, Nat.reduceLT, Int.reduceLT, Int.reduceLE, Int.reduceToNat, Int.reduceAdd, Int.reduceSub, Int.reduceNeg, hnm, Tryd.tf0, Tryd.tf1, Tryd.tf2, Tryd.tf3, Tryd.tf4, Tryd.tf5, Tryd.tf9, Tryd.tf23, Tryd.tf26, Tryd.tf36, Tryd.tf45, Tryd.teq45, Tryd.tf66, Tryd.teq94, Tryd.teq104, Tryd.teq113, Tryd.teq114, Tryd.call34, Tryd.call43, Tryd.call44, hAB, hgb, hfl, hlx]); repeat (refine And.intro (by omega) ?_))
    | ((with_reducible first | apply WL_nil | apply W_label | apply W_skip | apply W_exit | apply W_ret | apply popsD_done); try simp only [seqK, blockK, scopeK, ↓reduceIte, Nat.reduceEqDiff])
    | with_reducible exact popsD_stop
    | (with_reducible apply pguard_intro <;> (intro hc; (try simp only [hcb, reduceCtorEq, forall_const, ne_eq] at hc); first | (exfalso; omega) | (exfalso; exact hc trivial) | refine Ev_in ?_))
    | (with_reducible apply W_cond_k; intro _ _ ea eb; (simp only [condK, cob, opnd, constPV, Nat.reduceEqDiff, Nat.reduceLT, ↓reduceIte, hcb, reduceCtorEq, forall_const, ne_eq]); subst ea eb; first | (refine ⟨fun hc => ?_, fun hc => ?_⟩ <;> first | (exfalso; omega) | (exfalso; exact hc trivial) | skip) | skip)
    | (with_reducible apply hnx; clear hnx nx)
    | (with_reducible refine And.intro (by omega) ?_)
    | (with_reducible refine And.intro ?_ ?_)
    | (clear hnx nx; with_reducible apply hnx; clear hnx nx)
    | (clear hnx nx; clear hnx nx; with_reducible apply hnx; clear hnx nx)
    | (clear hnx nx; clear hnx nx; clear hnx nx; with_reducible apply hnx; clear hnx nx))
            all_goals first | exact absurd trivial hc | contradiction | exact fun h => False.elim h | (exfalso; omega) | (exfalso; have hc := of_decide_eq_false hc; omega) | (exfalso; simp only [Bool.not_false, Bool.not_true, decide_eq_true_eq, decide_eq_false_iff_not] at *; omega) | skip
            refine hfin _ _ (Fin_ret3 rfl rfl rfl (Sub_nil _) ?_); simp only [List.getD_cons_zero, List.getD_cons_succ, fr_getD_cons, fr_getD_nil, Nat.reduceEqDiff, Nat.reduceLT, ↓reduceIte]
            rw [parseF_none hs (by rw [← hL]; exact hrd) hil hfk hsome]
            exact ⟨pnil, rfl, .inl ⟨rfl, rfl, by trivial⟩⟩
        · have hi2 : i = xs.length := by omega
          subst hi2
          have cv := rvalid_c G (basedF xs) (based_HA (by omega) hsm)
          rw [List.take_length] at hsome
          have hok := parseF_ok hs (by rw [← hL]; exact hrd) hsome
          rw [upto_full] at hfl
          rw [upto_full]
          repeat' (first
    | (with_reducible apply W_seq_k; intro nx hnx)
    | (with_reducible first | apply W_block | apply W_scope)
    | (with_reducible refine W_prune 16381 ?_; simp only [prb, Nat.reducePow, Nat.reduceDiv, Nat.reduceMod, Nat.reduceBEq]; first | (with_reducible apply W_region_l) | with_reducible refine W_region_draw (id := 20) 1 (.op 0 true (.op 1 true (.op 2 true (.op 3 true (.op 4 true (.op 5 true (.op 6 true (.op 7 true (.op 8 true (.op 9 true (.op 10 true (.op 11 true (.op 12 true (.op 13 true (.op 14 true (.op 15 true (.done))))))))))))))))) (by kernel_rfl) ?_)
    | ((first | (with_reducible apply WL_op; intro nx hnx) | with_reducible refine Ev_out ?_ | (with_reducible apply popsD_op; intro nx hnx) | (with_reducible refine popsD_alt ?_ ?_; intro nx hnx) | (with_reducible refine pfresh_k hnm fun nm hnm => ?_; (try simp only [fmb] at hnm)) | (with_reducible refine pborn_mu hnm fun nm hnm => ?_; (try simp only [fmb] at hnm)) | (with_reducible refine pmaybe_k ?_; intro bn hbn)); try (simp (maxSteps := 2000000) (disch := omega) only [evb, evd, pbuiltin, constPV, pnck, seqK, blockK, scopeK, pbin, pun, ppick, plen, piaddr, pindex, pfield, pslice, pbound, pconv, pelems, pextract, pmm, PV.mem?, PV.one, PV.cells, pageq, peqs, peq1, pmakes, pstore, pbytes, pmark, pusd, pust, psrc, pkey, pnile, pcap, pgrow, List.set, Value.cells, ↓popG_eq, ↓pop.eq_1, ↓List.getElem?_map, ↓List.getElem?_cons_zero, ↓List.getElem?_cons_succ, Value.oneCell', Nat.reduceAdd, Nat.reduceMul, Nat.reduceSub, Nat.reduceLeDiff, Nat.reduceEqDiff, ↓reduceIte, ne_eq, reduceCtorEq, forall_const, exists_and_left, exists_eq_left', eq_self, Nat.reduceLT, Int.reduceLT, Int.reduceLE, Int.reduceToNat, Int.reduceAdd, Int.reduceSub, Int.reduceNeg, hnm, Tryd.tf0, Tryd.tf1, Tryd.tf2, Tryd.tf3, Tryd.tf4, Tryd.tf5, Tryd.tf9, Tryd.tf23, Tryd.tf26, Tryd.tf36, Tryd.tf45, Tryd.teq45, Tryd.tf66, Tryd.teq94, Tryd.teq104, Tryd.teq113, Tryd.teq114, Tryd.call34, Tryd.call43, Tryd.call44, hAB, hfl, hlx]); repeat (refine And.intro (by omega) ?_))
    | ((with_reducible first | apply WL_nil | apply W_label | apply W_skip | apply W_exit | apply W_ret | apply popsD_done); try simp only [seqK, blockK, scopeK, ↓reduceIte, Nat.reduceEqDiff])
    | with_reducible exact popsD_stop
    | (with_reducible apply pguard_intro <;> (intro hc; (try simp only [hcb, reduceCtorEq, forall_const, ne_eq] at hc); first | (exfalso; omega) | (exfalso; exact hc trivial) | refine Ev_in ?_))
    | (with_reducible apply W_cond_k; intro _ _ ea eb; (simp only [condK, cob, opnd, constPV, Nat.reduceEqDiff, Nat.reduceLT, ↓reduceIte, hcb, reduceCtorEq, forall_const, ne_eq]); subst ea eb; first | (refine ⟨fun hc => ?_, fun hc => ?_⟩ <;> first | (exfalso; omega) | (exfalso; exact hc trivial) | skip) | skip)
    | (with_reducible apply hnx; clear hnx nx)
    | (with_reducible refine And.intro (by omega) ?_)
    | (with_reducible refine And.intro ?_ ?_)
    | ((refine pcall_lts (t := 45) (a := basedF xs) (by simp only [look, if_true]) (by rw [basedF_len]) cv ?_; refine Ev_in ?_))
    | (clear hnx nx; with_reducible apply hnx; clear hnx nx)
    | (clear hnx nx; clear hnx nx; with_reducible apply hnx; clear hnx nx)
    | (clear hnx nx; clear hnx nx; clear hnx nx; with_reducible apply hnx; clear hnx nx))
          all_goals first | exact absurd trivial hc | contradiction | exact fun h => False.elim h | (exfalso; omega) | (exfalso; have hc := of_decide_eq_false hc; omega) | (exfalso; simp only [Bool.not_false, Bool.not_true, decide_eq_true_eq, decide_eq_false_iff_not] at *; omega) | skip
          · rw [hc, if_neg (by simp)] at hok
            refine hfin _ _ (Fin_ret3 rfl rfl rfl (Sub_nil _) ?_); simp only [List.getD_cons_zero, List.getD_cons_succ, fr_getD_cons, fr_getD_nil, Nat.reduceEqDiff, Nat.reduceLT, ↓reduceIte]
            rw [hok]
            exact ⟨pnil, rfl, .inl ⟨rfl, rfl, by trivial⟩⟩
          · rw [hc, if_pos rfl] at hok
            refine hfin _ _ (Fin_ret3 rfl rfl rfl (H := [(A, ⟨45, true, 5, flatL (basedF xs)⟩)]) ⟨fun x hx => ?_, by simp [names]⟩ ?_)
            · simp only [List.mem_cons, List.not_mem_nil, or_false] at hx ⊢
              exact .inl hx
            · simp only [fr_getD_cons, Nat.reduceEqDiff, Nat.reduceLT, ↓reduceIte]
              rw [hok]
              exact ⟨.row A 5 xs.length, rfl, .inr ⟨A, by rw [basedF_len], rfl⟩⟩
  · have e : parseF s = ([], 0, 4) := by
      unfold parseF
      rw [if_pos (by omega)]
    (refine PCalls_f Tryd.func20 rfl Tryd.ntmps20 Tryd.results20 (by simp) fun fin hfin => ?_; have hnm : True := trivial; simp (maxSteps := 2000000) (disch := omega) only [evb, evd, pbuiltin, constPV, pnck, seqK, blockK, scopeK, pbin, pun, ppick, plen, piaddr, pindex, pfield, pslice, pbound, pconv, pelems, pextract, pmm, PV.mem?, PV.one, PV.cells, pageq, peqs, peq1, pmakes, pstore, pbytes, pmark, pusd, pust, psrc, pkey, pnile, pcap, pgrow, List.set, Value.cells, ↓popG_eq, ↓pop.eq_1, ↓List.getElem?_map, ↓List.getElem?_cons_zero, ↓List.getElem?_cons_succ, Value.oneCell', Nat.reduceAdd, Nat.reduceMul, Nat.reduceSub, Nat.reduceLeDiff, Nat.reduceEqDiff, ↓reduceIte, ne_eq, reduceCtorEq, forall_const, exists_and_left, exists_eq_left', eq_self, Nat.reduceLT, Int.reduceLT, Int.reduceLE, Int.reduceToNat, Int.reduceAdd, Int.reduceSub, Int.reduceNeg, hnm, Tryd.tf0, Tryd.tf1, Tryd.tf2, Tryd.tf3, Tryd.tf4, Tryd.tf5, Tryd.tf9, Tryd.tf23, Tryd.tf26, Tryd.tf36, Tryd.tf45, Tryd.teq45, Tryd.tf66, Tryd.teq94, Tryd.teq104, Tryd.teq113, Tryd.teq114, Tryd.call34, Tryd.call43, Tryd.call44])
    repeat' (first
    | (with_reducible apply W_seq_k; intro nx hnx)
    | (with_reducible first | apply W_block | apply W_scope)
    | (with_reducible refine W_prune 16381 ?_; simp only [prb, Nat.reducePow, Nat.reduceDiv, Nat.reduceMod, Nat.reduceBEq]; first | (with_reducible apply W_region_l) | with_reducible refine W_region_draw (id := 20) 1 (.op 0 true (.op 1 true (.op 2 true (.op 3 true (.op 4 true (.op 5 true (.op 6 true (.op 7 true (.op 8 true (.op 9 true (.op 10 true (.op 11 true (.op 12 true (.op 13 true (.op 14 true (.op 15 true (.done))))))))))))))))) (by kernel_rfl) ?_)
    | ((first | (with_reducible apply WL_op; intro nx hnx) | with_reducible refine Ev_out ?_ | (with_reducible apply popsD_op; intro nx hnx) | (with_reducible refine popsD_alt ?_ ?_; intro nx hnx) | (with_reducible refine pfresh_k hnm fun nm hnm => ?_; (try simp only [fmb] at hnm)) | (with_reducible refine pborn_mu hnm fun nm hnm => ?_; (try simp only [fmb] at hnm)) | (with_reducible refine pmaybe_k ?_; intro bn hbn)); try (simp (maxSteps := 2000000) (disch := omega) only [evb, evd, pbuiltin, constPV, pnck, seqK, blockK, scopeK, pbin, pun, ppick, plen, piaddr, pindex, pfield, pslice, pbound, pconv, pelems, pextract, pmm, PV.mem?, PV.one, PV.cells, pageq, peqs, peq1, pmakes, pstore, pbytes, pmark, pusd, pust, psrc, pkey, pnile, pcap, pgrow, List.set, Value.cells, ↓popG_eq, ↓pop.eq_1, ↓List.getElem?_map, ↓List.getElem?_cons_zero, ↓List.getElem?_cons_succ, Value.oneCell', Nat.reduceAdd, Nat.reduceMul, Nat.reduceSub, Nat.reduceLeDiff, Nat.reduceEqDiff, ↓reduceIte, ne_eq, reduceCtorEq, forall_const, exists_and_left, exists_eq_left', eq_self, Nat.reduceLT, Int.reduceLT, Int.reduceLE, Int.reduceToNat, Int.reduceAdd, Int.reduceSub, Int.reduceNeg, hnm, Tryd.tf0, Tryd.tf1, Tryd.tf2, Tryd.tf3, Tryd.tf4, Tryd.tf5, Tryd.tf9, Tryd.tf23, Tryd.tf26, Tryd.tf36, Tryd.tf45, Tryd.teq45, Tryd.tf66, Tryd.teq94, Tryd.teq104, Tryd.teq113, Tryd.teq114, Tryd.call34, Tryd.call43, Tryd.call44]); repeat (refine And.intro (by omega) ?_))
    | ((with_reducible first | apply WL_nil | apply W_label | apply W_skip | apply W_exit | apply W_ret | apply popsD_done); try simp only [seqK, blockK, scopeK, ↓reduceIte, Nat.reduceEqDiff])
    | with_reducible exact popsD_stop
    | (with_reducible apply pguard_intro <;> (intro hc; (try simp only [hcb, reduceCtorEq, forall_const, ne_eq] at hc); first | (exfalso; omega) | (exfalso; exact hc trivial) | refine Ev_in ?_))
    | (with_reducible apply W_cond_k; intro _ _ ea eb; (simp only [condK, cob, opnd, constPV, Nat.reduceEqDiff, Nat.reduceLT, ↓reduceIte, hcb, reduceCtorEq, forall_const, ne_eq]); subst ea eb; first | (refine ⟨fun hc => ?_, fun hc => ?_⟩ <;> first | (exfalso; omega) | (exfalso; exact hc trivial) | skip) | skip)
    | (with_reducible apply hnx; clear hnx nx)
    | (with_reducible refine And.intro (by omega) ?_)
    | (with_reducible refine And.intro ?_ ?_)
    | (clear hnx nx; with_reducible apply hnx; clear hnx nx)
    | (clear hnx nx; clear hnx nx; with_reducible apply hnx; clear hnx nx)
    | (clear hnx nx; clear hnx nx; clear hnx nx; with_reducible apply hnx; clear hnx nx))
    all_goals first | exact absurd trivial hc | contradiction | exact fun h => False.elim h | (exfalso; omega) | (exfalso; have hc := of_decide_eq_false hc; omega) | (exfalso; simp only [Bool.not_false, Bool.not_true, decide_eq_true_eq, decide_eq_false_iff_not] at *; omega) | skip
    refine hfin _ _ (Fin_ret3 rfl rfl rfl (Sub_nil _) ?_); simp only [List.getD_cons_zero, List.getD_cons_succ, fr_getD_cons, fr_getD_nil, Nat.reduceEqDiff, Nat.reduceLT, ↓reduceIte]
    rw [e]
    exact ⟨pnil, rfl, .inl ⟨rfl, rfl, by trivial⟩⟩
theorem rparse_f (G : Globs) (s : List UInt8) : PCalls Tryd.prog G 20 [pstr s] [] (fun res H => res = .tuple [ltsP (parseF s).1, pint .i64 (parseF s).2.1, pint .i64 (parseF s).2.2] ∧ H = []) := CRL.frz3 (rparse_c G s)
end Go.PM

namespace Go.PM
open Go.Proofs
attribute [local irreducible] W PCalls pcall pcallI WL
set_option maxRecDepth 100000
set_option maxHeartbeats 8000000
/-- Letters with texts of two bytes. -/
def mkM (i : Nat) : Ltr := ⟨[UInt8.ofNat (97 + i / 20), UInt8.ofNat (97 + i % 20)], i, 0, 0, 1⟩
def manyF (n : Nat) : List Ltr := (List.range n).map mkM
theorem many_r (G : Globs) (n : Nat) (hn : n ≤ 100) : PCalls Tryd.prog G 18 [pn n] [] (fun res H => ∃ A : Int, res = .row A 5 (manyF n).length ∧ H = [(A, ⟨45, true, 5, flatL (manyF n)⟩)]) := by
  have hml : ∀ i, ((List.range i).map mkM).length = i := fun i => by simp
  have hl : (manyF n).length = n := hml n
  rw [hl]
  (refine PCalls_f Tryd.func18 rfl Tryd.ntmps18 Tryd.results18 (by simp) fun fin hfin => ?_; have hnm : True := trivial; simp (maxSteps := 2000000) (disch := omega) only [evb, evd, pbuiltin, constPV, pnck, seqK, blockK, scopeK, pbin, pun, ppick, plen, piaddr, pindex, pfield, pslice, pbound, pconv, pelems, pextract, pmm, PV.mem?, PV.one, PV.cells, pageq, peqs, peq1, pmakes, pstore, pbytes, pmark, pusd, pust, psrc, pkey, pnile, pcap, pgrow, List.set, Value.cells, ↓popG_eq, ↓pop.eq_1, ↓List.getElem?_map, ↓List.getElem?_cons_zero, ↓List.getElem?_cons_succ, Value.oneCell', Nat.reduceAdd, Nat.reduceMul, Nat.reduceSub, Nat.reduceLeDiff, Nat.reduceEqDiff, ↓reduceIte, ne_eq, reduceCtorEq, forall_const, exists_and_left, exists_eq_left', eq_self, Nat.reduceLT, Int.reduceLT, Int.reduceLE, Int.reduceToNat, Int.reduceAdd, Int.reduceSub, Int.reduceNeg, hnm, Tryd.tf1, Tryd.tf2, Tryd.tf3, Tryd.tf4, Tryd.tf5, Tryd.tf9, Tryd.tf23, Tryd.tf40, Tryd.tf45, Tryd.teq45, Tryd.teq94, Tryd.teq104, Tryd.teq113, Tryd.teq114])
  repeat' (first
    | (with_reducible apply W_seq_k; intro nx hnx)
    | (with_reducible first | apply W_block | apply W_scope)
    | (with_reducible refine W_prune 29 ?_; simp only [prb, Nat.reducePow, Nat.reduceDiv, Nat.reduceMod, Nat.reduceBEq]; with_reducible apply W_region_l)
    | ((first | (with_reducible apply WL_op; intro nx hnx) | with_reducible refine Ev_out ?_ | (with_reducible refine pfresh_k hnm fun nm hnm => ?_; (try simp only [fmb] at hnm)) | (with_reducible refine pborn_mu hnm fun nm hnm => ?_; (try simp only [fmb] at hnm))); try (simp (maxSteps := 2000000) (disch := omega) only [evb, evd, pbuiltin, constPV, pnck, seqK, blockK, scopeK, pbin, pun, ppick, plen, piaddr, pindex, pfield, pslice, pbound, pconv, pelems, pextract, pmm, PV.mem?, PV.one, PV.cells, pageq, peqs, peq1, pmakes, pstore, pbytes, pmark, pusd, pust, psrc, pkey, pnile, pcap, pgrow, List.set, Value.cells, ↓popG_eq, ↓pop.eq_1, ↓List.getElem?_map, ↓List.getElem?_cons_zero, ↓List.getElem?_cons_succ, Value.oneCell', Nat.reduceAdd, Nat.reduceMul, Nat.reduceSub, Nat.reduceLeDiff, Nat.reduceEqDiff, ↓reduceIte, ne_eq, reduceCtorEq, forall_const, exists_and_left, exists_eq_left', eq_self, Nat.reduceLT, Int.reduceLT, Int.reduceLE, Int.reduceToNat, Int.reduceAdd, Int.reduceSub, Int.reduceNeg, hnm, Tryd.tf1, Tryd.tf2, Tryd.tf3, Tryd.tf4, Tryd.tf5, Tryd.tf9, Tryd.tf23, Tryd.tf40, Tryd.tf45, Tryd.teq45, Tryd.teq94, Tryd.teq104, Tryd.teq113, Tryd.teq114]); repeat (refine And.intro (by omega) ?_))
    | ((with_reducible first | apply WL_nil | apply W_label | apply W_skip | apply W_exit | apply W_ret); try simp only [seqK, blockK, scopeK, ↓reduceIte, Nat.reduceEqDiff])
    | (with_reducible apply W_cond_k; intro _ _ ea eb; (simp only [condK, cob, opnd, constPV, Nat.reduceEqDiff, Nat.reduceLT, ↓reduceIte, hcb, reduceCtorEq, forall_const, ne_eq]); subst ea eb; first | (refine ⟨fun hc => ?_, fun hc => ?_⟩ <;> first | (exfalso; omega) | (exfalso; exact hc trivial) | skip) | skip)
    | (with_reducible apply hnx; clear hnx nx)
    | (with_reducible refine And.intro (by omega) ?_)
    | (with_reducible refine And.intro ?_ ?_)
    | (clear hnx nx; with_reducible apply hnx; clear hnx nx)
    | (clear hnx nx; clear hnx nx; with_reducible apply hnx; clear hnx nx)
    | (clear hnx nx; clear hnx nx; clear hnx nx; with_reducible apply hnx; clear hnx nx))
  refine W_adopt_f 3 45 5 (by simp only [fr_getD_cons, Nat.reduceEqDiff, Nat.reduceLT, ↓reduceIte]) fun A0 hA => ?_
  refine W_loop_k (fun z τ => ∃ (i : Nat) (A : Int), i ≤ n ∧ z = n - i ∧ τ = ⟨fr 26 [(4, pn i), (3, .row A 5 i), (0, pn n)], [(A, ⟨45, true, 5, flatL ((List.range i).map mkM)⟩)]⟩) n
    ⟨fr 26 [(4, pn 0), (3, .row A0 5 0), (0, pn n)], [(A0, ⟨45, true, 5, flatL ((List.range 0).map mkM)⟩)]⟩ (by
    refine Wk_fr (by simp only [wkb, Nat.reduceEqDiff, Nat.reduceLT, ↓reduceIte, pn]) ?_
    exact Sub_refl (by simp [names])) ⟨0, A0, by omega, by omega, rfl⟩ ?_
  clear hA hnm
  have hnm : True := trivial
  rintro z τ ⟨i, A, hi, rfl, rfl⟩ lp hlp
  have hfl : (flatL ((List.range i).map mkM)).length = i * 5 := by rw [flatL_len, hml]
  by_cases hil : i < n
  · have hsn : flatL ((List.range (i + 1)).map mkM) = flatL ((List.range i).map mkM) ++ cellL (mkM i) := by
      rw [List.range_succ, List.map_append, List.map_singleton, flatL_snoc]
    have e1 : ((i : Int)).tdiv 20 = ((i / 20 : Nat) : Int) := by
      rw [Int.tdiv_eq_ediv_of_nonneg (by omega)]
      omega
    have e2 : ((i : Int)).tmod 20 = ((i % 20 : Nat) : Int) := by
      rw [Int.tmod_eq_emod_of_nonneg (by omega)]
      omega
    have w1 : IntKind.u8.wrap (97 + ((i / 20 : Nat) : Int)) = (UInt8.ofNat (97 + i / 20)).toNat := by
      rw [wr8 _ (by omega) (by omega), UInt8.toNat_ofNat']
      omega
    have w2 : IntKind.u8.wrap (97 + ((i % 20 : Nat) : Int)) = (UInt8.ofNat (97 + i % 20)).toNat := by
      rw [wr8 _ (by omega) (by omega), UInt8.toNat_ofNat']
      omega
    have hcl : cellL (mkM i) = [pstr [UInt8.ofNat (97 + i / 20), UInt8.ofNat (97 + i % 20)], pint .i64 i, pint .i64 0, pint .i64 0, pint .i64 1] := rfl
    rw [hcl] at hsn
    generalize UInt8.ofNat (97 + i / 20) = d1 at *
    generalize UInt8.ofNat (97 + i % 20) = d2 at *
    have hu1 : unb (pint .u8 d1.toNat) = d1 := List.singleton_inj.1 (unb_pb [d1])
    have hu2 : isByte (pint .u8 d1.toNat) = true := isByte_pbyte d1
    have hu3 : unb (pint .u8 d2.toNat) = d2 := List.singleton_inj.1 (unb_pb [d2])
    have hu4 : isByte (pint .u8 d2.toNat) = true := isByte_pbyte d2
    repeat' (first
    | (with_reducible apply W_seq_k; intro nx hnx)
    | (with_reducible first | apply W_block | apply W_scope)
    | (with_reducible refine W_prune 29 ?_; simp only [prb, Nat.reducePow, Nat.reduceDiv, Nat.reduceMod, Nat.reduceBEq]; with_reducible apply W_region_l)
    | ((first | (with_reducible apply WL_op; intro nx hnx) | with_reducible refine Ev_out ?_ | (with_reducible refine pfresh_k hnm fun nm hnm => ?_; (try simp only [fmb] at hnm)) | (with_reducible refine pborn_mu hnm fun nm hnm => ?_; (try simp only [fmb] at hnm))); try (simp (maxSteps := 2000000) (disch := omega) only [evb, evd, pbuiltin, constPV, pnck, seqK, blockK, scopeK, pbin, pun, ppick, plen, piaddr, pindex, pfield, pslice, pbound, pconv, pelems, pextract, pmm, PV.mem?, PV.one, PV.cells, pageq, peqs, peq1, pmakes, pstore, pbytes, pmark, pusd, pust, psrc, pkey, pnile, pcap, pgrow, List.set, Value.cells, ↓popG_eq, ↓pop.eq_1, ↓List.getElem?_map, ↓List.getElem?_cons_zero, ↓List.getElem?_cons_succ, Value.oneCell', Nat.reduceAdd, Nat.reduceMul, Nat.reduceSub, Nat.reduceLeDiff, Nat.reduceEqDiff, ↓reduceIte, ne_eq, reduceCtorEq, forall_const, exists_and_left, exists_eq_left', eq_self, Nat.reduceLT, Int.reduceLT, Int.reduceLE, Int.reduceToNat, Int.reduceAdd, Int.reduceSub, Int.reduceNeg, hnm, Tryd.tf1, Tryd.tf2, Tryd.tf3, Tryd.tf4, Tryd.tf5, Tryd.tf9, Tryd.tf23, Tryd.tf40, Tryd.tf45, Tryd.teq45, Tryd.teq94, Tryd.teq104, Tryd.teq113, Tryd.teq114, hfl, e1, e2, w1, w2, hu1, hu2, hu3, hu4]); repeat (refine And.intro (by omega) ?_))
    | ((with_reducible first | apply WL_nil | apply W_label | apply W_skip | apply W_exit | apply W_ret); try simp only [seqK, blockK, scopeK, ↓reduceIte, Nat.reduceEqDiff])
    | (with_reducible apply W_cond_k; intro _ _ ea eb; (simp only [condK, cob, opnd, constPV, Nat.reduceEqDiff, Nat.reduceLT, ↓reduceIte, hcb, reduceCtorEq, forall_const, ne_eq]); subst ea eb; first | (refine ⟨fun hc => ?_, fun hc => ?_⟩ <;> first | (exfalso; omega) | (exfalso; exact hc trivial) | skip) | skip)
    | (with_reducible apply hnx; clear hnx nx)
    | (with_reducible refine And.intro (by omega) ?_)
    | (with_reducible refine And.intro ?_ ?_)
    | (clear hnx nx; with_reducible apply hnx; clear hnx nx)
    | (clear hnx nx; clear hnx nx; with_reducible apply hnx; clear hnx nx)
    | (clear hnx nx; clear hnx nx; clear hnx nx; with_reducible apply hnx; clear hnx nx))
    all_goals first | exact absurd trivial hc | contradiction | exact fun h => False.elim h | (exfalso; omega) | (exfalso; have hc := of_decide_eq_false hc; omega) | (exfalso; simp only [Bool.not_false, Bool.not_true, decide_eq_true_eq, decide_eq_false_iff_not] at *; omega) | skip
    · exact (by kernel_rfl : Tryd.prog.underlying 5 = some (.int .u8))
    · refine hlp _ (n - (i + 1)) ⟨fr 26 [(4, pn (i + 1)), (3, .row nm 5 (i + 1)), (0, pn n)], [(nm, ⟨45, true, 5, flatL ((List.range (i + 1)).map mkM)⟩)]⟩ (by omega) ?_ ⟨i + 1, nm, by omega, rfl, rfl⟩
      rw [hsn]
      refine Wk_fr (by simp only [wkb, Nat.reduceEqDiff, Nat.reduceLT, ↓reduceIte, pn]) ?_
      refine ⟨fun x hx => ?_, by simp [names, hnm]⟩
      simp only [List.mem_cons, List.not_mem_nil, or_false] at hx ⊢
      exact .inl hx
  · have hi2 : i = n := by omega
    subst hi2
    repeat' (first
    | (with_reducible apply W_seq_k; intro nx hnx)
    | (with_reducible first | apply W_block | apply W_scope)
    | (with_reducible refine W_prune 29 ?_; simp only [prb, Nat.reducePow, Nat.reduceDiv, Nat.reduceMod, Nat.reduceBEq]; with_reducible apply W_region_l)
    | ((first | (with_reducible apply WL_op; intro nx hnx) | with_reducible refine Ev_out ?_ | (with_reducible refine pfresh_k hnm fun nm hnm => ?_; (try simp only [fmb] at hnm)) | (with_reducible refine pborn_mu hnm fun nm hnm => ?_; (try simp only [fmb] at hnm))); try (simp (maxSteps := 2000000) (disch := omega) only [evb, evd, pbuiltin, constPV, pnck, seqK, blockK, scopeK, pbin, pun, ppick, plen, piaddr, pindex, pfield, pslice, pbound, pconv, pelems, pextract, pmm, PV.mem?, PV.one, PV.cells, pageq, peqs, peq1, pmakes, pstore, pbytes, pmark, pusd, pust, psrc, pkey, pnile, pcap, pgrow, List.set, Value.cells, ↓popG_eq, ↓pop.eq_1, ↓List.getElem?_map, ↓List.getElem?_cons_zero, ↓List.getElem?_cons_succ, Value.oneCell', Nat.reduceAdd, Nat.reduceMul, Nat.reduceSub, Nat.reduceLeDiff, Nat.reduceEqDiff, ↓reduceIte, ne_eq, reduceCtorEq, forall_const, exists_and_left, exists_eq_left', eq_self, Nat.reduceLT, Int.reduceLT, Int.reduceLE, Int.reduceToNat, Int.reduceAdd, Int.reduceSub, Int.reduceNeg, hnm, Tryd.tf1, Tryd.tf2, Tryd.tf3, Tryd.tf4, Tryd.tf5, Tryd.tf9, Tryd.tf23, Tryd.tf40, Tryd.tf45, Tryd.teq45, Tryd.teq94, Tryd.teq104, Tryd.teq113, Tryd.teq114]); repeat (refine And.intro (by omega) ?_))
    | ((with_reducible first | apply WL_nil | apply W_label | apply W_skip | apply W_exit | apply W_ret); try simp only [seqK, blockK, scopeK, ↓reduceIte, Nat.reduceEqDiff])
    | (with_reducible apply W_cond_k; intro _ _ ea eb; (simp only [condK, cob, opnd, constPV, Nat.reduceEqDiff, Nat.reduceLT, ↓reduceIte, hcb, reduceCtorEq, forall_const, ne_eq]); subst ea eb; first | (refine ⟨fun hc => ?_, fun hc => ?_⟩ <;> first | (exfalso; omega) | (exfalso; exact hc trivial) | skip) | skip)
    | (with_reducible apply hnx; clear hnx nx)
    | (with_reducible refine And.intro (by omega) ?_)
    | (with_reducible refine And.intro ?_ ?_)
    | (clear hnx nx; with_reducible apply hnx; clear hnx nx)
    | (clear hnx nx; clear hnx nx; with_reducible apply hnx; clear hnx nx)
    | (clear hnx nx; clear hnx nx; clear hnx nx; with_reducible apply hnx; clear hnx nx))
    all_goals first | exact absurd trivial hc | contradiction | exact fun h => False.elim h | (exfalso; omega) | (exfalso; have hc := of_decide_eq_false hc; omega) | (exfalso; simp only [Bool.not_false, Bool.not_true, decide_eq_true_eq, decide_eq_false_iff_not] at *; omega) | skip
    refine hfin _ _ (Fin_ret1 rfl (Sub_refl (by simp [names])) ?_)
    simp only [fr_getD_cons, Nat.reduceEqDiff, Nat.reduceLT, ↓reduceIte]
    exact ⟨A, rfl, rfl⟩
theorem many_c (G : Globs) (n : Nat) (hn : n ≤ 100) : PCalls Tryd.prog G 18 [pn n] [] (fun res H => res = ltsP (manyF n) ∧ H = []) :=
  CRL.frz ((many_r G n hn).mono fun res H ⟨n, h1, h2⟩ => .inr ⟨n, h1, h2⟩)
theorem many_HA : HA (manyF 60) := by
  refine ⟨by decide, fun x hx => ?_⟩
  unfold manyF at hx
  obtain ⟨i, hi, rfl⟩ := List.mem_map.1 hx
  refine ⟨by simp [mkM], ⟨by simp [mkM], by simp [mkM]⟩, by simp [mkM], by simp [mkM]⟩
theorem line_len {a : List Ltr} (hv : validF a = true) {i : Nat} (hil : i < a.length) : (lineT a a[i]).length ≤ 30 := by
  obtain ⟨n1, n2, n3, n4, n5, n6, n7, n8⟩ := valid_nums hv hil
  have hj : a[i].base.toNat < a.length := by omega
  have t1 := (valid_text hv hil).2
  have t2 := (valid_text hv hj).2
  have l1 := decF_four (n := a[i].mark.toNat) (by omega)
  have l2 := decF_four (n := a[i].case_.toNat) (by omega)
  have l3 := decF_four (n := a[i].width.toNat) (by omega)
  rw [lineT, getD_lt hj]
  simp only [List.length_append, List.length_singleton]
  omega
theorem printF_len (a : List Ltr) : (printF a).length ≤ 1800 := by
  unfold printF
  split
  · rename_i hv
    have h60 := (validF_iff.1 hv).2.1
    have : ∀ L : List Ltr, (∀ x ∈ L, (lineT a x).length ≤ 30) → (L.flatMap (lineT a)).length ≤ 30 * L.length := by
      intro L
      induction L with
      | nil => intro _; simp
      | cons x r ih =>
        intro h
        have h1 := h x List.mem_cons_self
        have h2 := ih fun y hy => h y (List.mem_cons_of_mem _ hy)
        rw [List.flatMap_cons, List.length_append, List.length_cons]
        omega
    have := this a fun x hx => by
      obtain ⟨i, hi, rfl⟩ := List.mem_iff_getElem.1 hx
      exact line_len hv hi
    omega
  · simp
theorem tdivI (b : Int) (d : Nat) (hd : 0 < d) (h : i64 b) : i64 (b.tdiv d) := by
  unfold i64 at h ⊢
  by_cases h0 : 0 ≤ b
  · rw [Int.tdiv_eq_ediv_of_nonneg h0]
    have h1 := Int.ediv_nonneg h0 (show (0 : Int) ≤ d by omega)
    have h2 := Int.ediv_le_self (d : Int) h0
    omega
  · obtain ⟨c, rfl⟩ : ∃ c, b = -c := ⟨-b, by omega⟩
    rw [Int.neg_tdiv, Int.tdiv_eq_ediv_of_nonneg (by omega)]
    have h1 := Int.ediv_nonneg (show 0 ≤ c by omega) (show (0 : Int) ≤ d by omega)
    have h2 := Int.ediv_le_self (d : Int) (show 0 ≤ c by omega)
    omega
end Go.PM

namespace Go.PM
open Go.Proofs
attribute [local irreducible] W PCalls pcall pcallI WL
set_option maxRecDepth 100000
set_option maxHeartbeats 8000000
theorem zeros_unb (n : Nat) : (List.replicate n (PV.val (.int .u8 0))).map unb = List.replicate n (0 : UInt8) ∧ (List.replicate n (PV.val (.int .u8 0))).all isByte = true := by
  have e : List.replicate n (PV.val (.int .u8 0)) = (List.replicate n (0 : UInt8)).map pbyte := by rw [List.map_replicate]; rfl
  rw [e]
  exact ⟨unb_pb _, isB_pb _⟩
theorem parseF_long (s : List UInt8) (h : 65536 < s.length) : parseF s = ([], 0, 4) := by
  unfold parseF
  rw [if_pos h]
theorem parseF_len (s : List UInt8) : (parseF s).1.length ≤ 60 := by
  unfold parseF
  split
  · simp
  split
  · simp
  split
  · simp
  · split
    · rename_i h
      exact (validF_iff.1 h).2.1
    · simp
theorem law4 (G : Globs) (l : List Int) (a1 h1 b1 : Int) (raw : List UInt8) (hl : okI l) (ha : i64 a1) (hh : i64 h1) (hb : i64 b1) (hr : (raw.length : Int) ≤ 9223372036854775807) : PCalls Tryd.prog G 4 [wP l, pint .i64 a1, pint .i64 h1, pint .i64 b1, pstr raw] [] (fun res H => res = pbool true ∧ H = []) := by
  have hv := letters_valid l
  have hA := valid_HA hv
  have c1 := letters_c G l hl
  have c2 := rprint_c G (lettersF l) hA
  have hsl := printF_len (lettersF l)
  generalize printF (lettersF l) = s at *
  generalize lettersF l = a at *
  obtain ⟨t, htl, c3⟩ := spelt_c G s a1 h1 b1 (by omega) ha hh hb
  obtain ⟨u, hul, c4⟩ := spelt_c G t (a1.tdiv 7) (h1.tdiv 4) (b1.tdiv 8) (by omega) (tdivI a1 7 (by omega) ha) (tdivI h1 4 (by omega) hh) (tdivI b1 8 (by omega) hb)
  have c5 := short_c G raw 200 (by omega)
  have c5 : PCalls Tryd.prog G 11 [pstr raw, .val (.int .i64 200)] [] _ := c5
  have hrl : (raw.take 200).length ≤ 200 := by rw [List.length_take]; omega
  have c6 := many_c G 60 (by omega)
  have c6 : PCalls Tryd.prog G 18 [.val (.int .i64 60)] [] _ := c6
  have c7 := rprint_c G (manyF 60) many_HA
  have hml := printF_len (manyF 60)
  generalize printF (manyF 60) = m at *
  generalize manyF 60 = mm at *
  generalize raw.take 200 = r at *
  have c9 := lives_c G
  have ⟨ta1, ta2⟩ : i64 (a1.tdiv 7) := tdivI a1 7 (by omega) ha
  have ⟨th1, th2⟩ : i64 (h1.tdiv 4) := tdivI h1 4 (by omega) hh
  have ⟨tb1, tb2⟩ : i64 (b1.tdiv 8) := tdivI b1 8 (by omega) hb
  have ⟨ha1, ha2⟩ := ha
  have ⟨hh1, hh2⟩ := hh
  have ⟨hb1, hb2⟩ := hb
  (refine PCalls_f Tryd.func4 rfl Tryd.ntmps4 Tryd.results4 (by simp) fun fin hfin => ?_; have hnm : True := trivial; simp (maxSteps := 2000000) (disch := omega) only [evb, evd, pbuiltin, constPV, pnck, seqK, blockK, scopeK, pbin, pun, ppick, plen, piaddr, pindex, pfield, pslice, pbound, pconv, pelems, pextract, pmm, PV.mem?, PV.one, PV.cells, pageq, peqs, peq1, pmakes, pstore, pbytes, pmark, pusd, pust, psrc, pkey, pnile, pcap, pgrow, List.set, Value.cells, ↓popG_eq, ↓pop.eq_1, ↓List.getElem?_map, ↓List.getElem?_cons_zero, ↓List.getElem?_cons_succ, Value.oneCell', Nat.reduceAdd, Nat.reduceMul, Nat.reduceSub, Nat.reduceLeDiff, Nat.reduceEqDiff, ↓reduceIte, ne_eq, reduceCtorEq, forall_const, exists_and_left, exists_eq_left', eq_self, Nat.reduceLT, Int.reduceLT, Int.reduceLE, Int.reduceToNat, Int.reduceAdd, Int.reduceSub, Int.reduceNeg, hnm, Tryd.tf0, Tryd.tf1, Tryd.tf2, Tryd.tf3, Tryd.tf4, Tryd.tf5, Tryd.tf9, Tryd.tf11, Tryd.tf22, Tryd.tf23, Tryd.tf26, Tryd.tf36, Tryd.tf37, Tryd.tf40, Tryd.tf45, Tryd.teq45, Tryd.teq94, Tryd.teq104, Tryd.teq113, Tryd.teq114, Tryd.call9, Tryd.call11, Tryd.call15, Tryd.call16, Tryd.call17, Tryd.call18, Tryd.call19, Tryd.call20, Tryd.call21])
  repeat' (first
    | (with_reducible apply W_seq_k; intro nx hnx)
    | (with_reducible first | apply W_block | apply W_scope)
    | (with_reducible refine W_prune 14679071 ?_; simp only [prb, Nat.reducePow, Nat.reduceDiv, Nat.reduceMod, Nat.reduceBEq]; with_reducible apply W_region_l)
    | (with_reducible refine WL_born (by simp) rfl (by simp) ?_; simp only [elemsOf, nl, List.map_cons, List.map_nil, Nat.reduceEqDiff, ↓reduceIte, List.take_succ_cons, List.take_zero, List.range_succ, List.range_zero, List.nil_append, List.cons_append, List.map_append, List.drop_succ_cons, List.drop_zero, Nat.reduceMul, Nat.zero_mul, Nat.one_mul, Nat.reduceAdd])
    | (with_reducible refine WL_bornH (by simp) (by simp) ?_ ?_ ?_; (· simp [frz, frz1, hnm]); (· simp [frz1, hnm, PV.one, Value.oneCell']); simp only [elemsOf, nl, List.map_cons, List.map_nil, Nat.reduceEqDiff, ↓reduceIte, List.take_succ_cons, List.take_zero, List.range_succ, List.range_zero, List.nil_append, List.cons_append, List.map_append, List.drop_succ_cons, List.drop_zero, Nat.reduceMul, Nat.zero_mul, Nat.one_mul, Nat.reduceAdd])
    | ((first | (with_reducible apply WL_op; intro nx hnx) | with_reducible refine Ev_out ?_ | (with_reducible refine pfresh_k hnm fun nm hnm => ?_; (try simp only [fmb] at hnm)) | (with_reducible refine pborn_im ?_; simp only [elemsOf, nl, List.map_cons, List.map_nil, Nat.reduceEqDiff, ↓reduceIte, List.take_succ_cons, List.take_zero, List.range_succ, List.range_zero, List.nil_append, List.cons_append, List.map_append, List.drop_succ_cons, List.drop_zero, Nat.reduceMul, Nat.zero_mul, Nat.one_mul, Nat.reduceAdd])); try (simp (maxSteps := 2000000) (disch := omega) only [evb, evd, pbuiltin, constPV, pnck, seqK, blockK, scopeK, pbin, pun, ppick, plen, piaddr, pindex, pfield, pslice, pbound, pconv, pelems, pextract, pmm, PV.mem?, PV.one, PV.cells, pageq, peqs, peq1, pmakes, pstore, pbytes, pmark, pusd, pust, psrc, pkey, pnile, pcap, pgrow, List.set, Value.cells, ↓popG_eq, ↓pop.eq_1, ↓List.getElem?_map, ↓List.getElem?_cons_zero, ↓List.getElem?_cons_succ, Value.oneCell', Nat.reduceAdd, Nat.reduceMul, Nat.reduceSub, Nat.reduceLeDiff, Nat.reduceEqDiff, ↓reduceIte, ne_eq, reduceCtorEq, forall_const, exists_and_left, exists_eq_left', eq_self, Nat.reduceLT, Int.reduceLT, Int.reduceLE, Int.reduceToNat, Int.reduceAdd, Int.reduceSub, Int.reduceNeg, hnm, Tryd.tf0, Tryd.tf1, Tryd.tf2, Tryd.tf3, Tryd.tf4, Tryd.tf5, Tryd.tf9, Tryd.tf11, Tryd.tf22, Tryd.tf23, Tryd.tf26, Tryd.tf36, Tryd.tf37, Tryd.tf40, Tryd.tf45, Tryd.teq45, Tryd.teq94, Tryd.teq104, Tryd.teq113, Tryd.teq114, Tryd.call9, Tryd.call11, Tryd.call15, Tryd.call16, Tryd.call17, Tryd.call18, Tryd.call19, Tryd.call20, Tryd.call21]); repeat (refine And.intro (by omega) ?_))
    | ((with_reducible first | apply WL_nil | apply W_label | apply W_skip | apply W_exit | apply W_ret); try simp only [seqK, blockK, scopeK, ↓reduceIte, Nat.reduceEqDiff])
    | (with_reducible apply pguard_intro <;> (intro hc; (try simp only [hcb, reduceCtorEq, forall_const, ne_eq] at hc); first | (exfalso; omega) | (exfalso; exact hc trivial) | refine Ev_in ?_))
    | (with_reducible apply W_cond_k; intro _ _ ea eb; (simp only [condK, cob, opnd, constPV, Nat.reduceEqDiff, Nat.reduceLT, ↓reduceIte, hcb, reduceCtorEq, forall_const, ne_eq]); subst ea eb; first | (refine ⟨fun hc => ?_, fun hc => ?_⟩ <;> first | (exfalso; omega) | (exfalso; exact hc trivial) | skip) | skip)
    | (with_reducible apply hnx; clear hnx nx)
    | (with_reducible refine And.intro (by omega) ?_)
    | (with_reducible refine And.intro ?_ ?_)
    | (with_reducible refine pcall_k (c1) ?_; rintro _ _ ⟨rfl, rfl⟩ -; refine Ev_in ?_)
    | (with_reducible refine pcall_k (c2) ?_; rintro _ _ ⟨rfl, rfl⟩ -; refine Ev_in ?_)
    | (with_reducible refine pcall_k (c3) ?_; rintro _ _ ⟨rfl, rfl⟩ -; refine Ev_in ?_)
    | (with_reducible refine pcall_k (c4) ?_; rintro _ _ ⟨rfl, rfl⟩ -; refine Ev_in ?_)
    | (with_reducible refine pcall_k (c5) ?_; rintro _ _ ⟨rfl, rfl⟩ -; refine Ev_in ?_)
    | (with_reducible refine pcall_k (c6) ?_; rintro _ _ ⟨rfl, rfl⟩ -; refine Ev_in ?_)
    | (with_reducible refine pcall_k (c7) ?_; rintro _ _ ⟨rfl, rfl⟩ -; refine Ev_in ?_)
    | (clear hnx nx; with_reducible apply hnx; clear hnx nx)
    | (clear hnx nx; clear hnx nx; with_reducible apply hnx; clear hnx nx)
    | (clear hnx nx; clear hnx nx; clear hnx nx; with_reducible apply hnx; clear hnx nx))
  all_goals first | exact absurd trivial hc | contradiction | exact fun h => False.elim h | (exfalso; omega) | (exfalso; have hc := of_decide_eq_false hc; omega) | (exfalso; simp only [Bool.not_false, Bool.not_true, decide_eq_true_eq, decide_eq_false_iff_not] at *; omega) | skip
  obtain ⟨L, hL⟩ : ∃ L, L = [s, t, u, s ++ s, s ++ [10], [], [10], r, 122 :: 32 :: 121 :: 32 :: 48 :: 32 :: 48 :: 32 :: 49 :: 10 :: s, m, m ++ [122, 122, 32, 122, 122, 32, 48, 32, 48, 32, 49, 10]] := ⟨_, rfl⟩
  have hLl : L.length = 11 := by rw [hL]; rfl
  have eL : [pstr s, pstr t, pstr u, pstr (s ++ s), pstr (s ++ [10]), PV.val (.string ⟨#[]⟩), PV.val (.string ⟨#[10]⟩), pstr r, pstr (122 :: 32 :: 121 :: 32 :: 48 :: 32 :: 48 :: 32 :: 49 :: 10 :: s), pstr m, pstr (m ++ [122, 122, 32, 122, 122, 32, 48, 32, 48, 32, 49, 10])] = L.map pstr := by rw [hL]; rfl
  refine W_loop_k (fun z τ => ∃ (i : Nat), i ≤ 11 ∧ z = 11 - i ∧ τ = ⟨fr 111 [(14, pn i), (13, .list 1 (L.map pstr))], []⟩) 11
    ⟨fr 111 [(14, pn 0), (13, .list 1 (L.map pstr))], []⟩ (by
    exact Wk_fr (by simp only [wkb, Nat.reduceEqDiff, Nat.reduceLT, ↓reduceIte, pn, eL]) (Sub_nil _)) ⟨0, by omega, by omega, rfl⟩ ?_
  rintro z τ ⟨i, hi, rfl, rfl⟩ lp hlp
  by_cases hil : i < 11
  · have hgi : L[i]? = some L[i] := List.getElem?_eq_getElem (by omega)
    have d1 := parse_f G L[i]
    have d2 := rparse_f G L[i]
    have d3 := same_lts G (parseF L[i]).1 (parseF L[i]).1 (by
      have := parseF_len L[i]
      omega)
    generalize parseF L[i] = q at *
    repeat' (first
    | (with_reducible apply W_seq_k; intro nx hnx)
    | (with_reducible first | apply W_block | apply W_scope)
    | (with_reducible refine W_prune 14679071 ?_; simp only [prb, Nat.reducePow, Nat.reduceDiv, Nat.reduceMod, Nat.reduceBEq]; with_reducible apply W_region_l)
    | ((first | (with_reducible apply WL_op; intro nx hnx) | with_reducible refine Ev_out ?_ | (with_reducible refine pfresh_k hnm fun nm hnm => ?_; (try simp only [fmb] at hnm)) | (with_reducible refine pborn_mu hnm fun nm hnm => ?_; (try simp only [fmb] at hnm))); try (simp (maxSteps := 2000000) (disch := omega) only [evb, evd, pbuiltin, constPV, pnck, seqK, blockK, scopeK, pbin, pun, ppick, plen, piaddr, pindex, pfield, pslice, pbound, pconv, pelems, pextract, pmm, PV.mem?, PV.one, PV.cells, pageq, peqs, peq1, pmakes, pstore, pbytes, pmark, pusd, pust, psrc, pkey, pnile, pcap, pgrow, List.set, Value.cells, ↓popG_eq, ↓pop.eq_1, ↓List.getElem?_map, ↓List.getElem?_cons_zero, ↓List.getElem?_cons_succ, Value.oneCell', Nat.reduceAdd, Nat.reduceMul, Nat.reduceSub, Nat.reduceLeDiff, Nat.reduceEqDiff, ↓reduceIte, ne_eq, reduceCtorEq, forall_const, exists_and_left, exists_eq_left', eq_self, Nat.reduceLT, Int.reduceLT, Int.reduceLE, Int.reduceToNat, Int.reduceAdd, Int.reduceSub, Int.reduceNeg, hnm, Tryd.tf0, Tryd.tf1, Tryd.tf2, Tryd.tf3, Tryd.tf4, Tryd.tf5, Tryd.tf9, Tryd.tf11, Tryd.tf22, Tryd.tf23, Tryd.tf26, Tryd.tf36, Tryd.tf37, Tryd.tf40, Tryd.tf45, Tryd.teq45, Tryd.teq94, Tryd.teq104, Tryd.teq113, Tryd.teq114, Tryd.call9, Tryd.call11, Tryd.call15, Tryd.call16, Tryd.call17, Tryd.call18, Tryd.call19, Tryd.call20, Tryd.call21, hgi, hLl]); repeat (refine And.intro (by omega) ?_))
    | ((with_reducible first | apply WL_nil | apply W_label | apply W_skip | apply W_exit | apply W_ret); try simp only [seqK, blockK, scopeK, ↓reduceIte, Nat.reduceEqDiff])
    | (with_reducible apply pguard_intro <;> (intro hc; (try simp only [hcb, reduceCtorEq, forall_const, ne_eq] at hc); first | (exfalso; omega) | (exfalso; exact hc trivial) | refine Ev_in ?_))
    | (with_reducible apply W_cond_k; intro _ _ ea eb; (simp only [condK, cob, opnd, constPV, Nat.reduceEqDiff, Nat.reduceLT, ↓reduceIte, hcb, reduceCtorEq, forall_const, ne_eq]); subst ea eb; first | (refine ⟨fun hc => ?_, fun hc => ?_⟩ <;> first | (exfalso; omega) | (exfalso; exact hc trivial) | skip) | skip)
    | (with_reducible apply hnx; clear hnx nx)
    | (with_reducible refine And.intro (by omega) ?_)
    | (with_reducible refine And.intro ?_ ?_)
    | (with_reducible refine pcall_k (d1) ?_; rintro _ _ ⟨rfl, rfl⟩ -; refine Ev_in ?_)
    | (with_reducible refine pcall_k (d2) ?_; rintro _ _ ⟨rfl, rfl⟩ -; refine Ev_in ?_)
    | (with_reducible refine pcall_k (d3) ?_; rintro _ _ ⟨rfl, rfl⟩ -; refine Ev_in ?_)
    | (clear hnx nx; with_reducible apply hnx; clear hnx nx)
    | (clear hnx nx; clear hnx nx; with_reducible apply hnx; clear hnx nx)
    | (clear hnx nx; clear hnx nx; clear hnx nx; with_reducible apply hnx; clear hnx nx))
    all_goals first | exact absurd trivial hc | contradiction | exact fun h => False.elim h | (exfalso; omega) | (exfalso; have hc := of_decide_eq_false hc; omega) | (exfalso; simp only [Bool.not_false, Bool.not_true, decide_eq_true_eq, decide_eq_false_iff_not] at *; omega) | skip
    refine hlp _ (11 - (i + 1)) _ (by omega) ?_ ⟨i + 1, by omega, rfl, rfl⟩
    exact Wk_fr (by simp only [wkb, Nat.reduceEqDiff, Nat.reduceLT, ↓reduceIte, pn]) (Sub_nil _)
  · have hi2 : i = 11 := by omega
    subst hi2
    obtain ⟨N, hN⟩ : ∃ N : Nat, N = 65537 := ⟨_, rfl⟩
    have e0 : parseF (List.replicate N 0) = ([], 0, 4) := parseF_long _ (by rw [List.length_replicate]; omega)
    have d1 := parse_f G (List.replicate N 0)
    rw [e0] at d1
    obtain ⟨z1, z2⟩ := zeros_unb N
    have n0 : (N = 0) = False := by rw [hN]; simp
    have n1 : List.take N (List.replicate N (PV.val (.int .u8 0))) = List.replicate N (PV.val (.int .u8 0)) := List.take_of_length_le (by rw [List.length_replicate]; exact Nat.le_refl _)
    repeat' (first
    | (with_reducible apply W_seq_k; intro nx hnx)
    | (with_reducible first | apply W_block | apply W_scope)
    | (with_reducible refine W_prune 14679071 ?_; simp only [prb, Nat.reducePow, Nat.reduceDiv, Nat.reduceMod, Nat.reduceBEq]; with_reducible apply W_region_l)
    | ((first | (with_reducible apply WL_op; intro nx hnx) | with_reducible refine Ev_out ?_ | (with_reducible refine pfresh_k hnm fun nm hnm => ?_; (try simp only [fmb] at hnm)) | (with_reducible refine pborn_mu hnm fun nm hnm => ?_; (try simp only [fmb] at hnm))); try (simp (maxSteps := 2000000) (disch := omega) only [evb, evd, pbuiltin, constPV, pnck, seqK, blockK, scopeK, pbin, pun, ppick, plen, piaddr, pindex, pfield, pslice, pbound, pconv, pelems, pextract, pmm, PV.mem?, PV.one, PV.cells, pageq, peqs, peq1, pmakes, pstore, pbytes, pmark, pusd, pust, psrc, pkey, pnile, pcap, pgrow, List.set, Value.cells, ↓popG_eq, ↓pop.eq_1, ↓List.getElem?_map, ↓List.getElem?_cons_zero, ↓List.getElem?_cons_succ, Value.oneCell', Nat.reduceAdd, Nat.reduceMul, Nat.reduceSub, Nat.reduceLeDiff, Nat.reduceEqDiff, ↓reduceIte, ne_eq, reduceCtorEq, forall_const, exists_and_left, exists_eq_left', eq_self, Nat.reduceLT, Int.reduceLT, Int.reduceLE, Int.reduceToNat, Int.reduceAdd, Int.reduceSub, Int.reduceNeg, hnm, Tryd.tf0, Tryd.tf1, Tryd.tf2, Tryd.tf3, Tryd.tf4, Tryd.tf5, Tryd.tf9, Tryd.tf11, Tryd.tf22, Tryd.tf23, Tryd.tf26, Tryd.tf36, Tryd.tf37, Tryd.tf40, Tryd.tf45, Tryd.teq45, Tryd.teq94, Tryd.teq104, Tryd.teq113, Tryd.teq114, Tryd.call9, Tryd.call11, Tryd.call15, Tryd.call16, Tryd.call17, Tryd.call18, Tryd.call19, Tryd.call20, Tryd.call21, hLl, List.flatten_replicate_singleton, ← hN, z1, z2, n0, n1, List.length_replicate, Nat.le_refl]); repeat (refine And.intro (by omega) ?_))
    | ((with_reducible first | apply WL_nil | apply W_label | apply W_skip | apply W_exit | apply W_ret); try simp only [seqK, blockK, scopeK, ↓reduceIte, Nat.reduceEqDiff])
    | (with_reducible apply pguard_intro <;> (intro hc; (try simp only [hcb, reduceCtorEq, forall_const, ne_eq] at hc); first | (exfalso; omega) | (exfalso; exact hc trivial) | refine Ev_in ?_))
    | (with_reducible apply W_cond_k; intro _ _ ea eb; (simp only [condK, cob, opnd, constPV, Nat.reduceEqDiff, Nat.reduceLT, ↓reduceIte, hcb, reduceCtorEq, forall_const, ne_eq]); subst ea eb; first | (refine ⟨fun hc => ?_, fun hc => ?_⟩ <;> first | (exfalso; omega) | (exfalso; exact hc trivial) | skip) | skip)
    | (with_reducible apply hnx; clear hnx nx)
    | (with_reducible refine And.intro (by omega) ?_)
    | (with_reducible refine And.intro ?_ ?_)
    | (with_reducible refine pcall_k (c9) ?_; rintro _ _ ⟨rfl, rfl⟩ -; refine Ev_in ?_)
    | (with_reducible refine pcall_k (d1) ?_; rintro _ _ ⟨rfl, rfl⟩ -; refine Ev_in ?_)
    | (clear hnx nx; with_reducible apply hnx; clear hnx nx)
    | (clear hnx nx; clear hnx nx; with_reducible apply hnx; clear hnx nx)
    | (clear hnx nx; clear hnx nx; clear hnx nx; with_reducible apply hnx; clear hnx nx))
    all_goals first | exact absurd trivial hc | contradiction | exact fun h => False.elim h | (exfalso; omega) | (exfalso; have hc := of_decide_eq_false hc; omega) | (exfalso; simp only [Bool.not_false, Bool.not_true, decide_eq_true_eq, decide_eq_false_iff_not] at *; omega) | skip
    · exact (by kernel_rfl : Tryd.prog.underlying 5 = some (.int .u8))
    · (refine hfin _ _ (Fin_ret1 rfl (Sub_nil _) ?_); simp only [List.getD_cons_zero, List.getD_cons_succ, fr_getD_cons, fr_getD_nil, Nat.reduceEqDiff, Nat.reduceLT, ↓reduceIte]; first | trivial | exact ⟨rfl, by trivial⟩ | (simp; done) | (simp; omega))
end Go.PM
