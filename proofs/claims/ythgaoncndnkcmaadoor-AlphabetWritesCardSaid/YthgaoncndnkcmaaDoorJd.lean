/- Joined texts (Am An Ao Ap Ar Bd Be Bh Au Aq Av Bf Bg): the machine, the contracts, the laws. Conditions: none but those that each names. -/
import Derived.Test.YthgaoncndnkcmaaDoorJc
set_option linter.unusedSimpArgs false
set_option linter.unusedVariables false
namespace Go.PM
open Go.Proofs
attribute [local irreducible] W PCalls pcall pcallI WL
set_option maxRecDepth 100000
set_option maxHeartbeats 8000000
theorem nodup_snoc {l : List (List UInt8)} {x : List UInt8} (h : l.Nodup) (hx : x ∉ l) : (l ++ [x]).Nodup := by
  rw [List.nodup_append]
  refine ⟨h, by simp, fun y hy z hz e => ?_⟩
  simp only [List.mem_singleton] at hz
  subst hz
  exact hx (e ▸ hy)
theorem not_nodup {l : List (List UInt8)} {i k : Nat} (hk : k < i) (hi : i < l.length) (e : l[k] = l[i]) : ¬ l.Nodup := by
  intro h
  have := (List.getElem_inj h).1 e
  omega
theorem rvalid_c (G : Globs) (a : List Ltr) (ha : HA a) : PCalls Tryd.prog G 34 [ltsP a] [] (fun res H => res = pbool (validF a) ∧ H = []) := by
  obtain ⟨ha1, ha2⟩ := ha
  (refine PCalls_f Tryd.func34 rfl Tryd.ntmps34 Tryd.results34 (by simp) fun fin hfin => ?_; have hnm : True := trivial; simp (maxSteps := 2000000) (disch := omega) only [evb, evd, pbuiltin, constPV, pnck, seqK, blockK, scopeK, pbin, pun, ppick, plen, piaddr, pindex, pfield, pslice, pbound, pconv, pelems, pextract, pmm, PV.mem?, PV.one, PV.cells, pageq, peqs, peq1, pmakes, pstore, pbytes, pmark, pusd, pust, psrc, pkey, pnile, pcap, pgrow, List.set, Value.cells, ↓popG_eq, ↓pop.eq_1, ↓List.getElem?_map, ↓List.getElem?_cons_zero, ↓List.getElem?_cons_succ, Value.oneCell', Nat.reduceAdd, Nat.reduceMul, Nat.reduceSub, Nat.reduceLeDiff, Nat.reduceEqDiff, ↓reduceIte, ne_eq, reduceCtorEq, forall_const, exists_and_left, exists_eq_left', eq_self, Nat.reduceLT, Int.reduceLT, Int.reduceLE, Int.reduceToNat, Int.reduceAdd, Int.reduceSub, Int.reduceNeg, hnm, Tryd.tf0, Tryd.tf1, Tryd.tf2, Tryd.tf3, Tryd.tf4, Tryd.tf9, Tryd.tf23, Tryd.tf45, Tryd.teq45, Tryd.teq94, Tryd.teq104, Tryd.teq113, Tryd.teq114, Tryd.call52])
  repeat' (first
    | (with_reducible apply W_seq_k; intro nx hnx)
    | (with_reducible first | apply W_block | apply W_scope)
    | (with_reducible refine W_prune 61 ?_; simp only [prb, Nat.reducePow, Nat.reduceDiv, Nat.reduceMod, Nat.reduceBEq]; first | (with_reducible apply W_region_l) | with_reducible refine W_region_draw (id := 7) 2 (.op 0 true (.op 1 true (.op 2 false (.op 3 true (.op 4 true (.op 5 true (.op 6 true (.op 7 true (.op 8 true (.op 9 true (.op 10 true (.op 11 true (.op 12 true (.op 13 true (.op 14 true (.op 15 true (.op 16 true (.op 17 true (.op 18 true (.op 19 true (.op 20 true (.op 21 true (.op 22 true (.op 23 true (.op 24 true (.op 25 true (.op 26 true (.op 27 true (.op 28 true (.op 29 true (.op 30 true (.op 31 true (.op 32 true (.op 33 true (.op 34 true (.op 35 true (.op 36 true (.op 37 true (.op 38 true (.op 39 true (.op 40 true (.op 41 true (.op 42 true (.op 43 true (.op 44 true (.op 45 true (.op 46 true (.op 47 true (.op 48 true (.op 49 true (.op 50 true (.op 51 true (.op 52 true (.op 53 true (.op 54 true (.op 55 true (.op 56 true (.done)))))))))))))))))))))))))))))))))))))))))))))))))))))))))) (by kernel_rfl) ?_ | with_reducible refine W_region_draw (id := 14) 1 (.op 0 true (.op 1 true (.op 2 true (.op 3 true (.op 4 true (.op 5 true (.op 6 true (.op 7 true (.done))))))))) (by kernel_rfl) ?_)
    | ((first | (with_reducible apply WL_op; intro nx hnx) | with_reducible refine Ev_out ?_ | (with_reducible apply popsD_op; intro nx hnx) | (with_reducible refine popsD_alt ?_ ?_; intro nx hnx) | (with_reducible refine pfresh_k hnm fun nm hnm => ?_; (try simp only [fmb] at hnm)) | (with_reducible refine pborn_mu hnm fun nm hnm => ?_; (try simp only [fmb] at hnm))); try (simp (maxSteps := 2000000) (disch := omega) only [evb, evd, pbuiltin, constPV, pnck, seqK, blockK, scopeK, pbin, pun, ppick, plen, piaddr, pindex, pfield, pslice, pbound, pconv, pelems, pextract, pmm, PV.mem?, PV.one, PV.cells, pageq, peqs, peq1, pmakes, pstore, pbytes, pmark, pusd, pust, psrc, pkey, pnile, pcap, pgrow, List.set, Value.cells, ↓popG_eq, ↓pop.eq_1, ↓List.getElem?_map, ↓List.getElem?_cons_zero, ↓List.getElem?_cons_succ, Value.oneCell', Nat.reduceAdd, Nat.reduceMul, Nat.reduceSub, Nat.reduceLeDiff, Nat.reduceEqDiff, ↓reduceIte, ne_eq, reduceCtorEq, forall_const, exists_and_left, exists_eq_left', eq_self, Nat.reduceLT, Int.reduceLT, Int.reduceLE, Int.reduceToNat, Int.reduceAdd, Int.reduceSub, Int.reduceNeg, hnm, Tryd.tf0, Tryd.tf1, Tryd.tf2, Tryd.tf3, Tryd.tf4, Tryd.tf9, Tryd.tf23, Tryd.tf45, Tryd.teq45, Tryd.teq94, Tryd.teq104, Tryd.teq113, Tryd.teq114, Tryd.call52]); repeat (refine And.intro (by omega) ?_))
    | ((with_reducible first | apply WL_nil | apply W_label | apply W_skip | apply W_exit | apply W_ret | apply popsD_done); try simp only [seqK, blockK, scopeK, ↓reduceIte, Nat.reduceEqDiff])
    | with_reducible exact popsD_stop
    | (with_reducible apply pguard_intro <;> (intro hc; (try simp only [hcb, reduceCtorEq, forall_const, ne_eq] at hc); first | (exfalso; omega) | (exfalso; exact hc trivial) | refine Ev_in ?_))
    | (with_reducible apply W_cond_k; intro _ _ ea eb; (simp only [condK, cob, opnd, constPV, Nat.reduceEqDiff, Nat.reduceLT, ↓reduceIte, hcb, reduceCtorEq, forall_const, ne_eq]); subst ea eb; first | (refine ⟨fun hc => ?_, fun hc => ?_⟩ <;> first | (exfalso; omega) | (exfalso; exact hc trivial) | skip) | skip)
    | (with_reducible apply hnx; clear hnx nx)
    | (with_reducible refine And.intro (by omega) ?_)
    | (with_reducible refine And.intro ?_ ?_)
    | (clear hnx nx; with_reducible apply hnx; clear hnx nx)
    | (clear hnx nx; clear hnx nx; with_reducible apply hnx; clear hnx nx)
    | (clear hnx nx; clear hnx nx; clear hnx nx; with_reducible apply hnx; clear hnx nx))
  all_goals first
    | exact absurd trivial hc
    | exact fun h => False.elim h
    | (exfalso
       omega)
    | skip
  all_goals first
    | (refine hfin _ _ (Fin_ret1 rfl (Sub_nil _) ?_); simp only [List.getD_cons_zero, List.getD_cons_succ, fr_getD_cons, fr_getD_nil, Nat.reduceEqDiff, Nat.reduceLT, ↓reduceIte]
       refine ⟨?_, by trivial⟩
       have h1 : ¬ (1 ≤ a.length ∧ a.length ≤ 60) := by omega
       by_cases h2 : 1 ≤ a.length
       · have h3 : ¬ a.length ≤ 60 := fun h => h1 ⟨h2, h⟩
         simp [validF, h3]
       · simp [validF, h2])
    | skip
  have hlen : 1 ≤ a.length ∧ a.length ≤ 60 := by omega
  have htl : (texts a).length = a.length := by simp [texts]
  refine W_loop_k (fun z τ => ∃ i : Nat, i ≤ a.length ∧ z = a.length - i ∧ okFrom a 0 = okFrom a i ∧ ((texts a).take i).Nodup ∧ τ = ⟨fr 108 [(3, pn i), (0, ltsP a)], []⟩) a.length
    ⟨fr 108 [(3, pn 0), (0, ltsP a)], []⟩ (by
    exact Wk_fr (by simp only [wkb, Nat.reduceEqDiff, Nat.reduceLT, ↓reduceIte, pn]) (Sub_nil _)) ⟨0, by omega, by omega, rfl, by simp, rfl⟩ ?_
  rintro z τ ⟨i, hi, rfl, hok, hnd, rfl⟩ lp hlp
  by_cases hil : i < a.length
  · rw [okFrom_step hil] at hok
    obtain ⟨t1, t2, t3⟩ := ha2 a[i] (List.getElem_mem hil)
    have hget : a[i]? = some a[i] := List.getElem?_eq_getElem hil
    have c1 := rplain_c G a[i].text t1
    repeat' (first
    | (with_reducible apply W_seq_k; intro nx hnx)
    | (with_reducible first | apply W_block | apply W_scope)
    | (with_reducible refine W_prune 61 ?_; simp only [prb, Nat.reducePow, Nat.reduceDiv, Nat.reduceMod, Nat.reduceBEq]; first | (with_reducible apply W_region_l) | with_reducible refine W_region_draw (id := 7) 2 (.op 0 true (.op 1 true (.op 2 false (.op 3 true (.op 4 true (.op 5 true (.op 6 true (.op 7 true (.op 8 true (.op 9 true (.op 10 true (.op 11 true (.op 12 true (.op 13 true (.op 14 true (.op 15 true (.op 16 true (.op 17 true (.op 18 true (.op 19 true (.op 20 true (.op 21 true (.op 22 true (.op 23 true (.op 24 true (.op 25 true (.op 26 true (.op 27 true (.op 28 true (.op 29 true (.op 30 true (.op 31 true (.op 32 true (.op 33 true (.op 34 true (.op 35 true (.op 36 true (.op 37 true (.op 38 true (.op 39 true (.op 40 true (.op 41 true (.op 42 true (.op 43 true (.op 44 true (.op 45 true (.op 46 true (.op 47 true (.op 48 true (.op 49 true (.op 50 true (.op 51 true (.op 52 true (.op 53 true (.op 54 true (.op 55 true (.op 56 true (.done)))))))))))))))))))))))))))))))))))))))))))))))))))))))))) (by kernel_rfl) ?_ | with_reducible refine W_region_draw (id := 14) 1 (.op 0 true (.op 1 true (.op 2 true (.op 3 true (.op 4 true (.op 5 true (.op 6 true (.op 7 true (.done))))))))) (by kernel_rfl) ?_)
    | ((first | (with_reducible apply WL_op; intro nx hnx) | with_reducible refine Ev_out ?_ | (with_reducible apply popsD_op; intro nx hnx) | (with_reducible refine popsD_alt ?_ ?_; intro nx hnx) | (with_reducible refine pfresh_k hnm fun nm hnm => ?_; (try simp only [fmb] at hnm)) | (with_reducible refine pborn_mu hnm fun nm hnm => ?_; (try simp only [fmb] at hnm))); try (simp (maxSteps := 2000000) (disch := omega) only [evb, evd, pbuiltin, constPV, pnck, seqK, blockK, scopeK, pbin, pun, ppick, plen, piaddr, pindex, pfield, pslice, pbound, pconv, pelems, pextract, pmm, PV.mem?, PV.one, PV.cells, pageq, peqs, peq1, pmakes, pstore, pbytes, pmark, pusd, pust, psrc, pkey, pnile, pcap, pgrow, List.set, Value.cells, ↓popG_eq, ↓pop.eq_1, ↓List.getElem?_map, ↓List.getElem?_cons_zero, ↓List.getElem?_cons_succ, Value.oneCell', Nat.reduceAdd, Nat.reduceMul, Nat.reduceSub, Nat.reduceLeDiff, Nat.reduceEqDiff, ↓reduceIte, ne_eq, reduceCtorEq, forall_const, exists_and_left, exists_eq_left', eq_self, Nat.reduceLT, Int.reduceLT, Int.reduceLE, Int.reduceToNat, Int.reduceAdd, Int.reduceSub, Int.reduceNeg, hnm, Tryd.tf0, Tryd.tf1, Tryd.tf2, Tryd.tf3, Tryd.tf4, Tryd.tf9, Tryd.tf23, Tryd.tf45, Tryd.teq45, Tryd.teq94, Tryd.teq104, Tryd.teq113, Tryd.teq114, Tryd.call52, hget]); repeat (refine And.intro (by omega) ?_))
    | ((with_reducible first | apply WL_nil | apply W_label | apply W_skip | apply W_exit | apply W_ret | apply popsD_done); try simp only [seqK, blockK, scopeK, ↓reduceIte, Nat.reduceEqDiff])
    | with_reducible exact popsD_stop
    | (with_reducible apply pguard_intro <;> (intro hc; (try simp only [hcb, reduceCtorEq, forall_const, ne_eq] at hc); first | (exfalso; omega) | (exfalso; exact hc trivial) | refine Ev_in ?_))
    | (with_reducible apply W_cond_k; intro _ _ ea eb; (simp only [condK, cob, opnd, constPV, Nat.reduceEqDiff, Nat.reduceLT, ↓reduceIte, hcb, reduceCtorEq, forall_const, ne_eq]); subst ea eb; first | (refine ⟨fun hc => ?_, fun hc => ?_⟩ <;> first | (exfalso; omega) | (exfalso; exact hc trivial) | skip) | skip)
    | (with_reducible apply hnx; clear hnx nx)
    | (with_reducible refine And.intro (by omega) ?_)
    | (with_reducible refine And.intro ?_ ?_)
    | (with_reducible refine pcall_k (c1) ?_; rintro _ _ ⟨rfl, rfl⟩ -; refine Ev_in ?_)
    | (clear hnx nx; with_reducible apply hnx; clear hnx nx)
    | (clear hnx nx; clear hnx nx; with_reducible apply hnx; clear hnx nx)
    | (clear hnx nx; clear hnx nx; clear hnx nx; with_reducible apply hnx; clear hnx nx))
    all_goals first
      | exact absurd trivial hc
      | exact fun h => False.elim h
      | (exfalso
         omega)
      | skip
    all_goals first
      | (refine hfin _ _ (Fin_ret1 rfl (Sub_nil _) ?_); simp only [List.getD_cons_zero, List.getD_cons_succ, fr_getD_cons, fr_getD_nil, Nat.reduceEqDiff, Nat.reduceLT, ↓reduceIte]
         refine ⟨?_, by trivial⟩
         rw [validF_bad]
         rw [hok]
         cases hx2 : okLtr a i a[i] with
         | false => rfl
         | true =>
           exfalso
           obtain ⟨k1, k2, k3, k4, k5, k6, k7, k8, k9, k10, k11⟩ := okLtr_iff.1 hx2
           first
             | (simp_all; done)
             | (have hb : a[i].base.toNat < a.length := by omega
                have k4 := k4 hb
                omega))
      | skip
    all_goals
      have hx2 : okLtr a i a[i] = true := by
        rw [okLtr_iff]
        refine ⟨by first | assumption | simp_all, by omega, by omega, fun hb => by first | assumption | omega, by omega, by omega, by omega, by omega, by omega, by omega, by omega⟩
      rw [hx2, Bool.true_and] at hok
      generalize hlet : (⟨45, false, 0, [pstr a[i].text, pint .i64 a[i].base, pint .i64 a[i].mark, pint .i64 a[i].case_, pint .i64 a[i].width]⟩ : PObj) = lt
      refine W_loop_k (fun z τ => ∃ k : Nat, k ≤ i ∧ z = i - k ∧ a[i].text ∉ (texts a).take k ∧ τ = ⟨fr 108 [(5, pn k), (4, .ptr nm 0), (3, pn i), (0, ltsP a)], [(nm, lt)]⟩) i
        ⟨fr 108 [(5, pn 0), (4, .ptr nm 0), (3, pn i), (0, ltsP a)], [(nm, lt)]⟩ (by
        refine Wk_fr (by simp only [wkb, Nat.reduceEqDiff, Nat.reduceLT, ↓reduceIte, pn]) ?_
        exact Sub_refl (by simp [names])) ⟨0, by omega, by omega, by simp, rfl⟩ ?_
      subst hlet
      rintro z τ ⟨k, hk, rfl, hnin, rfl⟩ lp2 hlp2
      by_cases hki : k < i
      · have hgk : a[k]? = some (a[k]'(by omega)) := List.getElem?_eq_getElem (by omega)
        have htk : (texts a).take (k + 1) = (texts a).take k ++ [(a[k]'(by omega)).text] := by
          rw [List.take_add_one, List.getElem?_eq_getElem (by omega)]
          simp [texts]
        repeat' (first
    | (with_reducible apply W_seq_k; intro nx hnx)
    | (with_reducible first | apply W_block | apply W_scope)
    | (with_reducible refine W_prune 61 ?_; simp only [prb, Nat.reducePow, Nat.reduceDiv, Nat.reduceMod, Nat.reduceBEq]; first | (with_reducible apply W_region_l) | with_reducible refine W_region_draw (id := 7) 2 (.op 0 true (.op 1 true (.op 2 false (.op 3 true (.op 4 true (.op 5 true (.op 6 true (.op 7 true (.op 8 true (.op 9 true (.op 10 true (.op 11 true (.op 12 true (.op 13 true (.op 14 true (.op 15 true (.op 16 true (.op 17 true (.op 18 true (.op 19 true (.op 20 true (.op 21 true (.op 22 true (.op 23 true (.op 24 true (.op 25 true (.op 26 true (.op 27 true (.op 28 true (.op 29 true (.op 30 true (.op 31 true (.op 32 true (.op 33 true (.op 34 true (.op 35 true (.op 36 true (.op 37 true (.op 38 true (.op 39 true (.op 40 true (.op 41 true (.op 42 true (.op 43 true (.op 44 true (.op 45 true (.op 46 true (.op 47 true (.op 48 true (.op 49 true (.op 50 true (.op 51 true (.op 52 true (.op 53 true (.op 54 true (.op 55 true (.op 56 true (.done)))))))))))))))))))))))))))))))))))))))))))))))))))))))))) (by kernel_rfl) ?_ | with_reducible refine W_region_draw (id := 14) 1 (.op 0 true (.op 1 true (.op 2 true (.op 3 true (.op 4 true (.op 5 true (.op 6 true (.op 7 true (.done))))))))) (by kernel_rfl) ?_)
    | ((first | (with_reducible apply WL_op; intro nx hnx) | with_reducible refine Ev_out ?_ | (with_reducible apply popsD_op; intro nx hnx) | (with_reducible refine popsD_alt ?_ ?_; intro nx hnx) | (with_reducible refine pfresh_k hnm fun nm hnm => ?_; (try simp only [fmb] at hnm)) | (with_reducible refine pborn_mu hnm fun nm hnm => ?_; (try simp only [fmb] at hnm))); try (simp (maxSteps := 2000000) (disch := omega) only [evb, evd, pbuiltin, constPV, pnck, seqK, blockK, scopeK, pbin, pun, ppick, plen, piaddr, pindex, pfield, pslice, pbound, pconv, pelems, pextract, pmm, PV.mem?, PV.one, PV.cells, pageq, peqs, peq1, pmakes, pstore, pbytes, pmark, pusd, pust, psrc, pkey, pnile, pcap, pgrow, List.set, Value.cells, ↓popG_eq, ↓pop.eq_1, ↓List.getElem?_map, ↓List.getElem?_cons_zero, ↓List.getElem?_cons_succ, Value.oneCell', Nat.reduceAdd, Nat.reduceMul, Nat.reduceSub, Nat.reduceLeDiff, Nat.reduceEqDiff, ↓reduceIte, ne_eq, reduceCtorEq, forall_const, exists_and_left, exists_eq_left', eq_self, Nat.reduceLT, Int.reduceLT, Int.reduceLE, Int.reduceToNat, Int.reduceAdd, Int.reduceSub, Int.reduceNeg, hnm, Tryd.tf0, Tryd.tf1, Tryd.tf2, Tryd.tf3, Tryd.tf4, Tryd.tf9, Tryd.tf23, Tryd.tf45, Tryd.teq45, Tryd.teq94, Tryd.teq104, Tryd.teq113, Tryd.teq114, Tryd.call52, hgk]); repeat (refine And.intro (by omega) ?_))
    | ((with_reducible first | apply WL_nil | apply W_label | apply W_skip | apply W_exit | apply W_ret | apply popsD_done); try simp only [seqK, blockK, scopeK, ↓reduceIte, Nat.reduceEqDiff])
    | with_reducible exact popsD_stop
    | (with_reducible apply pguard_intro <;> (intro hc; (try simp only [hcb, reduceCtorEq, forall_const, ne_eq] at hc); first | (exfalso; omega) | (exfalso; exact hc trivial) | refine Ev_in ?_))
    | (with_reducible apply W_cond_k; intro _ _ ea eb; (simp only [condK, cob, opnd, constPV, Nat.reduceEqDiff, Nat.reduceLT, ↓reduceIte, hcb, reduceCtorEq, forall_const, ne_eq]); subst ea eb; first | (refine ⟨fun hc => ?_, fun hc => ?_⟩ <;> first | (exfalso; omega) | (exfalso; exact hc trivial) | skip) | skip)
    | (with_reducible apply hnx; clear hnx nx)
    | (with_reducible refine And.intro (by omega) ?_)
    | (with_reducible refine And.intro ?_ ?_)
    | (clear hnx nx; with_reducible apply hnx; clear hnx nx)
    | (clear hnx nx; clear hnx nx; with_reducible apply hnx; clear hnx nx)
    | (clear hnx nx; clear hnx nx; clear hnx nx; with_reducible apply hnx; clear hnx nx))
        all_goals first
          | exact absurd trivial hc
          | exact fun h => False.elim h
          | (exfalso
             omega)
          | skip
        all_goals first
          | (refine hfin _ _ (Fin_ret1 rfl (Sub_nil _) ?_); simp only [List.getD_cons_zero, List.getD_cons_succ, fr_getD_cons, fr_getD_nil, Nat.reduceEqDiff, Nat.reduceLT, ↓reduceIte]
             refine ⟨?_, by trivial⟩
             have hnn : ¬ (texts a).Nodup := not_nodup (k := k) (i := i) hki (by omega) (by simp only [texts, List.getElem_map]; exact hc)
             simp [validF, hnn])
          | (refine hlp2 _ (i - (k + 1)) _ (by omega) ?_ ⟨k + 1, by omega, rfl, ?_, rfl⟩
             · refine Wk_fr (by simp only [wkb, Nat.reduceEqDiff, Nat.reduceLT, ↓reduceIte, pn]) ?_
               exact Sub_refl (by simp [names])
             · rw [htk, List.mem_append, List.mem_singleton, not_or]
               exact ⟨hnin, fun e => hc e.symm⟩)
          | skip
        all_goals trace_state
      · have hki2 : k = i := by omega
        subst hki2
        repeat' (first
    | (with_reducible apply W_seq_k; intro nx hnx)
    | (with_reducible first | apply W_block | apply W_scope)
    | (with_reducible refine W_prune 61 ?_; simp only [prb, Nat.reducePow, Nat.reduceDiv, Nat.reduceMod, Nat.reduceBEq]; first | (with_reducible apply W_region_l) | with_reducible refine W_region_draw (id := 7) 2 (.op 0 true (.op 1 true (.op 2 false (.op 3 true (.op 4 true (.op 5 true (.op 6 true (.op 7 true (.op 8 true (.op 9 true (.op 10 true (.op 11 true (.op 12 true (.op 13 true (.op 14 true (.op 15 true (.op 16 true (.op 17 true (.op 18 true (.op 19 true (.op 20 true (.op 21 true (.op 22 true (.op 23 true (.op 24 true (.op 25 true (.op 26 true (.op 27 true (.op 28 true (.op 29 true (.op 30 true (.op 31 true (.op 32 true (.op 33 true (.op 34 true (.op 35 true (.op 36 true (.op 37 true (.op 38 true (.op 39 true (.op 40 true (.op 41 true (.op 42 true (.op 43 true (.op 44 true (.op 45 true (.op 46 true (.op 47 true (.op 48 true (.op 49 true (.op 50 true (.op 51 true (.op 52 true (.op 53 true (.op 54 true (.op 55 true (.op 56 true (.done)))))))))))))))))))))))))))))))))))))))))))))))))))))))))) (by kernel_rfl) ?_ | with_reducible refine W_region_draw (id := 14) 1 (.op 0 true (.op 1 true (.op 2 true (.op 3 true (.op 4 true (.op 5 true (.op 6 true (.op 7 true (.done))))))))) (by kernel_rfl) ?_)
    | ((first | (with_reducible apply WL_op; intro nx hnx) | with_reducible refine Ev_out ?_ | (with_reducible apply popsD_op; intro nx hnx) | (with_reducible refine popsD_alt ?_ ?_; intro nx hnx) | (with_reducible refine pfresh_k hnm fun nm hnm => ?_; (try simp only [fmb] at hnm)) | (with_reducible refine pborn_mu hnm fun nm hnm => ?_; (try simp only [fmb] at hnm))); try (simp (maxSteps := 2000000) (disch := omega) only [evb, evd, pbuiltin, constPV, pnck, seqK, blockK, scopeK, pbin, pun, ppick, plen, piaddr, pindex, pfield, pslice, pbound, pconv, pelems, pextract, pmm, PV.mem?, PV.one, PV.cells, pageq, peqs, peq1, pmakes, pstore, pbytes, pmark, pusd, pust, psrc, pkey, pnile, pcap, pgrow, List.set, Value.cells, ↓popG_eq, ↓pop.eq_1, ↓List.getElem?_map, ↓List.getElem?_cons_zero, ↓List.getElem?_cons_succ, Value.oneCell', Nat.reduceAdd, Nat.reduceMul, Nat.reduceSub, Nat.reduceLeDiff, Nat.reduceEqDiff, ↓reduceIte, ne_eq, reduceCtorEq, forall_const, exists_and_left, exists_eq_left', eq_self, Nat.reduceLT, Int.reduceLT, Int.reduceLE, Int.reduceToNat, Int.reduceAdd, Int.reduceSub, Int.reduceNeg, hnm, Tryd.tf0, Tryd.tf1, Tryd.tf2, Tryd.tf3, Tryd.tf4, Tryd.tf9, Tryd.tf23, Tryd.tf45, Tryd.teq45, Tryd.teq94, Tryd.teq104, Tryd.teq113, Tryd.teq114, Tryd.call52]); repeat (refine And.intro (by omega) ?_))
    | ((with_reducible first | apply WL_nil | apply W_label | apply W_skip | apply W_exit | apply W_ret | apply popsD_done); try simp only [seqK, blockK, scopeK, ↓reduceIte, Nat.reduceEqDiff])
    | with_reducible exact popsD_stop
    | (with_reducible apply pguard_intro <;> (intro hc; (try simp only [hcb, reduceCtorEq, forall_const, ne_eq] at hc); first | (exfalso; omega) | (exfalso; exact hc trivial) | refine Ev_in ?_))
    | (with_reducible apply W_cond_k; intro _ _ ea eb; (simp only [condK, cob, opnd, constPV, Nat.reduceEqDiff, Nat.reduceLT, ↓reduceIte, hcb, reduceCtorEq, forall_const, ne_eq]); subst ea eb; first | (refine ⟨fun hc => ?_, fun hc => ?_⟩ <;> first | (exfalso; omega) | (exfalso; exact hc trivial) | skip) | skip)
    | (with_reducible apply hnx; clear hnx nx)
    | (with_reducible refine And.intro (by omega) ?_)
    | (with_reducible refine And.intro ?_ ?_)
    | (clear hnx nx; with_reducible apply hnx; clear hnx nx)
    | (clear hnx nx; clear hnx nx; with_reducible apply hnx; clear hnx nx)
    | (clear hnx nx; clear hnx nx; clear hnx nx; with_reducible apply hnx; clear hnx nx))
        all_goals first
          | exact absurd trivial hc
          | exact fun h => False.elim h
          | (exfalso
             omega)
          | skip
        all_goals
          refine hlp _ (a.length - (k + 1)) _ (by omega) ?_ ⟨k + 1, by omega, rfl, hok, ?_, rfl⟩
          · refine Wk_fr (by simp only [wkb, Nat.reduceEqDiff, Nat.reduceLT, ↓reduceIte, pn]) ?_
            exact Sub_nil _
          · rw [List.take_add_one, List.getElem?_eq_getElem (by omega)]
            exact nodup_snoc hnd (by simpa [texts] using hnin)
  · have hi2 : i = a.length := by omega
    subst hi2
    rw [okFrom_end] at hok
    rw [List.take_of_length_le (by omega)] at hnd
    repeat' (first
    | (with_reducible apply W_seq_k; intro nx hnx)
    | (with_reducible first | apply W_block | apply W_scope)
    | (with_reducible refine W_prune 61 ?_; simp only [prb, Nat.reducePow, Nat.reduceDiv, Nat.reduceMod, Nat.reduceBEq]; first | (with_reducible apply W_region_l) | with_reducible refine W_region_draw (id := 7) 2 (.op 0 true (.op 1 true (.op 2 false (.op 3 true (.op 4 true (.op 5 true (.op 6 true (.op 7 true (.op 8 true (.op 9 true (.op 10 true (.op 11 true (.op 12 true (.op 13 true (.op 14 true (.op 15 true (.op 16 true (.op 17 true (.op 18 true (.op 19 true (.op 20 true (.op 21 true (.op 22 true (.op 23 true (.op 24 true (.op 25 true (.op 26 true (.op 27 true (.op 28 true (.op 29 true (.op 30 true (.op 31 true (.op 32 true (.op 33 true (.op 34 true (.op 35 true (.op 36 true (.op 37 true (.op 38 true (.op 39 true (.op 40 true (.op 41 true (.op 42 true (.op 43 true (.op 44 true (.op 45 true (.op 46 true (.op 47 true (.op 48 true (.op 49 true (.op 50 true (.op 51 true (.op 52 true (.op 53 true (.op 54 true (.op 55 true (.op 56 true (.done)))))))))))))))))))))))))))))))))))))))))))))))))))))))))) (by kernel_rfl) ?_ | with_reducible refine W_region_draw (id := 14) 1 (.op 0 true (.op 1 true (.op 2 true (.op 3 true (.op 4 true (.op 5 true (.op 6 true (.op 7 true (.done))))))))) (by kernel_rfl) ?_)
    | ((first | (with_reducible apply WL_op; intro nx hnx) | with_reducible refine Ev_out ?_ | (with_reducible apply popsD_op; intro nx hnx) | (with_reducible refine popsD_alt ?_ ?_; intro nx hnx) | (with_reducible refine pfresh_k hnm fun nm hnm => ?_; (try simp only [fmb] at hnm)) | (with_reducible refine pborn_mu hnm fun nm hnm => ?_; (try simp only [fmb] at hnm))); try (simp (maxSteps := 2000000) (disch := omega) only [evb, evd, pbuiltin, constPV, pnck, seqK, blockK, scopeK, pbin, pun, ppick, plen, piaddr, pindex, pfield, pslice, pbound, pconv, pelems, pextract, pmm, PV.mem?, PV.one, PV.cells, pageq, peqs, peq1, pmakes, pstore, pbytes, pmark, pusd, pust, psrc, pkey, pnile, pcap, pgrow, List.set, Value.cells, ↓popG_eq, ↓pop.eq_1, ↓List.getElem?_map, ↓List.getElem?_cons_zero, ↓List.getElem?_cons_succ, Value.oneCell', Nat.reduceAdd, Nat.reduceMul, Nat.reduceSub, Nat.reduceLeDiff, Nat.reduceEqDiff, ↓reduceIte, ne_eq, reduceCtorEq, forall_const, exists_and_left, exists_eq_left', eq_self, Nat.reduceLT, Int.reduceLT, Int.reduceLE, Int.reduceToNat, Int.reduceAdd, Int.reduceSub, Int.reduceNeg, hnm, Tryd.tf0, Tryd.tf1, Tryd.tf2, Tryd.tf3, Tryd.tf4, Tryd.tf9, Tryd.tf23, Tryd.tf45, Tryd.teq45, Tryd.teq94, Tryd.teq104, Tryd.teq113, Tryd.teq114, Tryd.call52]); repeat (refine And.intro (by omega) ?_))
    | ((with_reducible first | apply WL_nil | apply W_label | apply W_skip | apply W_exit | apply W_ret | apply popsD_done); try simp only [seqK, blockK, scopeK, ↓reduceIte, Nat.reduceEqDiff])
    | with_reducible exact popsD_stop
    | (with_reducible apply pguard_intro <;> (intro hc; (try simp only [hcb, reduceCtorEq, forall_const, ne_eq] at hc); first | (exfalso; omega) | (exfalso; exact hc trivial) | refine Ev_in ?_))
    | (with_reducible apply W_cond_k; intro _ _ ea eb; (simp only [condK, cob, opnd, constPV, Nat.reduceEqDiff, Nat.reduceLT, ↓reduceIte, hcb, reduceCtorEq, forall_const, ne_eq]); subst ea eb; first | (refine ⟨fun hc => ?_, fun hc => ?_⟩ <;> first | (exfalso; omega) | (exfalso; exact hc trivial) | skip) | skip)
    | (with_reducible apply hnx; clear hnx nx)
    | (with_reducible refine And.intro (by omega) ?_)
    | (with_reducible refine And.intro ?_ ?_)
    | (clear hnx nx; with_reducible apply hnx; clear hnx nx)
    | (clear hnx nx; clear hnx nx; with_reducible apply hnx; clear hnx nx)
    | (clear hnx nx; clear hnx nx; clear hnx nx; with_reducible apply hnx; clear hnx nx))
    all_goals first
      | exact absurd trivial hc
      | exact fun h => False.elim h
      | (exfalso
         omega)
      | skip
    all_goals
      refine hfin _ _ (Fin_ret1 rfl (Sub_nil _) ?_); simp only [List.getD_cons_zero, List.getD_cons_succ, fr_getD_cons, fr_getD_nil, Nat.reduceEqDiff, Nat.reduceLT, ↓reduceIte]
      refine ⟨?_, by trivial⟩
      simp [validF, hok, hnd, hlen]
end Go.PM

namespace Go.PM
open Go.Proofs
attribute [local irreducible] W PCalls pcall pcallI WL
set_option maxRecDepth 100000
set_option maxHeartbeats 8000000
theorem rwrite_c (G : Globs) (a : List Ltr) (w : List Int) (ha : HA a) (hw : w.length ≤ 100000000) : PCalls Tryd.prog G 24 [ltsP a, wP w] [] (fun res H => res = .tuple [pstr (writeF a w).1, pint .i64 (writeF a w).2] ∧ H = []) := by
  have c1 := rvalid_c G a ha
  (refine PCalls_f Tryd.func24 rfl Tryd.ntmps24 Tryd.results24 (by simp) fun fin hfin => ?_; have hnm : True := trivial; simp (maxSteps := 2000000) (disch := omega) only [evb, evd, pbuiltin, constPV, pnck, seqK, blockK, scopeK, pbin, pun, ppick, plen, piaddr, pindex, pfield, pslice, pbound, pconv, pelems, pextract, pmm, PV.mem?, PV.one, PV.cells, pageq, peqs, peq1, pmakes, pstore, pbytes, pmark, pusd, pust, psrc, pkey, pnile, pcap, pgrow, List.set, Value.cells, ↓popG_eq, ↓pop.eq_1, ↓List.getElem?_map, ↓List.getElem?_cons_zero, ↓List.getElem?_cons_succ, Value.oneCell', Nat.reduceAdd, Nat.reduceMul, Nat.reduceSub, Nat.reduceLeDiff, Nat.reduceEqDiff, ↓reduceIte, ne_eq, reduceCtorEq, forall_const, exists_and_left, exists_eq_left', eq_self, Nat.reduceLT, Int.reduceLT, Int.reduceLE, Int.reduceToNat, Int.reduceAdd, Int.reduceSub, Int.reduceNeg, hnm, Tryd.tf0, Tryd.tf3, Tryd.tf4, Tryd.tf9, Tryd.tf22, Tryd.tf23, Tryd.tf36, Tryd.tf45, Tryd.teq45, Tryd.teq94, Tryd.teq104, Tryd.teq113, Tryd.teq114, Tryd.call34])
  repeat' (first
    | (with_reducible apply W_seq_k; intro nx hnx)
    | (with_reducible first | apply W_block | apply W_scope)
    | (with_reducible refine W_prune 243 ?_; simp only [prb, Nat.reducePow, Nat.reduceDiv, Nat.reduceMod, Nat.reduceBEq]; with_reducible apply W_region_l)
    | ((first | (with_reducible apply WL_op; intro nx hnx) | with_reducible refine Ev_out ?_); try (simp (maxSteps := 2000000) (disch := omega) only [evb, evd, pbuiltin, constPV, pnck, seqK, blockK, scopeK, pbin, pun, ppick, plen, piaddr, pindex, pfield, pslice, pbound, pconv, pelems, pextract, pmm, PV.mem?, PV.one, PV.cells, pageq, peqs, peq1, pmakes, pstore, pbytes, pmark, pusd, pust, psrc, pkey, pnile, pcap, pgrow, List.set, Value.cells, ↓popG_eq, ↓pop.eq_1, ↓List.getElem?_map, ↓List.getElem?_cons_zero, ↓List.getElem?_cons_succ, Value.oneCell', Nat.reduceAdd, Nat.reduceMul, Nat.reduceSub, Nat.reduceLeDiff, Nat.reduceEqDiff, ↓reduceIte, ne_eq, reduceCtorEq, forall_const, exists_and_left, exists_eq_left', eq_self, Nat.reduceLT, Int.reduceLT, Int.reduceLE, Int.reduceToNat, Int.reduceAdd, Int.reduceSub, Int.reduceNeg, hnm, Tryd.tf0, Tryd.tf3, Tryd.tf4, Tryd.tf9, Tryd.tf22, Tryd.tf23, Tryd.tf36, Tryd.tf45, Tryd.teq45, Tryd.teq94, Tryd.teq104, Tryd.teq113, Tryd.teq114, Tryd.call34]); repeat (refine And.intro (by omega) ?_))
    | ((with_reducible first | apply WL_nil | apply W_label | apply W_skip | apply W_exit | apply W_ret); try simp only [seqK, blockK, scopeK, ↓reduceIte, Nat.reduceEqDiff])
    | (with_reducible apply pguard_intro <;> (intro hc; (try simp only [hcb, reduceCtorEq, forall_const, ne_eq] at hc); first | (exfalso; omega) | (exfalso; exact hc trivial) | refine Ev_in ?_))
    | (with_reducible apply W_cond_k; intro _ _ ea eb; (simp only [condK, cob, opnd, constPV, Nat.reduceEqDiff, Nat.reduceLT, ↓reduceIte, hcb, reduceCtorEq, forall_const, ne_eq]); subst ea eb; first | (refine ⟨fun hc => ?_, fun hc => ?_⟩ <;> first | (exfalso; omega) | (exfalso; exact hc trivial) | skip) | skip)
    | (with_reducible apply hnx; clear hnx nx)
    | (with_reducible refine And.intro (by omega) ?_)
    | (with_reducible refine And.intro ?_ ?_)
    | (with_reducible refine pcall_k (c1) ?_; rintro _ _ ⟨rfl, rfl⟩ -; refine Ev_in ?_)
    | (clear hnx nx; with_reducible apply hnx; clear hnx nx)
    | (clear hnx nx; clear hnx nx; with_reducible apply hnx; clear hnx nx)
    | (clear hnx nx; clear hnx nx; clear hnx nx; with_reducible apply hnx; clear hnx nx))
  all_goals first
    | exact absurd trivial hc
    | exact fun h => False.elim h
    | skip
  · have hv : validF a = false := by simpa using hc
    refine hfin _ _ (Fin_ret2 rfl rfl (Sub_nil _) ?_); simp only [List.getD_cons_zero, List.getD_cons_succ, fr_getD_cons, fr_getD_nil, Nat.reduceEqDiff, Nat.reduceLT, ↓reduceIte]
    refine ⟨?_, by trivial⟩
    simp [writeF, hv]
    rfl
  have hv : validF a = true := by simpa using hc
  refine W_loop_k (fun z τ => ∃ (i : Nat), i ≤ w.length ∧ z = w.length - i ∧ (w.take i).all (inA a) = true ∧ τ = ⟨fr 42 [(7, pn i), (6, pstr (textF a (w.take i))), (1, wP w), (0, ltsP a)], []⟩) w.length
    ⟨fr 42 [(7, pn 0), (6, .val (.string ⟨#[]⟩)), (1, wP w), (0, ltsP a)], []⟩ (by
    exact Wk_fr (by simp only [wkb, Nat.reduceEqDiff, Nat.reduceLT, ↓reduceIte, pn]) (Sub_nil _)) ⟨0, by omega, by omega, by simp, rfl⟩ ?_
  rintro z τ ⟨i, hi, rfl, hall, rfl⟩ lp hlp
  have hlen := textF_len hv _ hall
  rw [List.length_take] at hlen
  by_cases hil : i < w.length
  · have hsn : w.take (i + 1) = w.take i ++ [w[i]] := by rw [List.take_add_one, List.getElem?_eq_getElem hil]; rfl
    have hgw : w[i]? = some w[i] := List.getElem?_eq_getElem hil
    by_cases hx : 0 ≤ w[i] ∧ w[i] ≤ (a.length : Int) - 1
    · have hin : inA a w[i] = true := by simp [inA, hx]
      have hj : w[i].toNat < a.length := by omega
      obtain ⟨h3, h4⟩ := valid_text hv hj
      have ht : textF a (w.take (i + 1)) = textF a (w.take i) ++ a[w[i].toNat].text := by
        rw [hsn]
        unfold textF
        rw [List.flatMap_append, List.flatMap_singleton, List.getD_eq_getElem?_getD, List.getElem?_eq_getElem hj]
        rfl
      have hgx : a[w[i].toNat]? = some a[w[i].toNat] := List.getElem?_eq_getElem hj
      generalize textF a (w.take i) = t at *
      repeat' (first
    | (with_reducible apply W_seq_k; intro nx hnx)
    | (with_reducible first | apply W_block | apply W_scope)
    | (with_reducible refine W_prune 243 ?_; simp only [prb, Nat.reducePow, Nat.reduceDiv, Nat.reduceMod, Nat.reduceBEq]; with_reducible apply W_region_l)
    | ((first | (with_reducible apply WL_op; intro nx hnx) | with_reducible refine Ev_out ?_); try (simp (maxSteps := 2000000) (disch := omega) only [evb, evd, pbuiltin, constPV, pnck, seqK, blockK, scopeK, pbin, pun, ppick, plen, piaddr, pindex, pfield, pslice, pbound, pconv, pelems, pextract, pmm, PV.mem?, PV.one, PV.cells, pageq, peqs, peq1, pmakes, pstore, pbytes, pmark, pusd, pust, psrc, pkey, pnile, pcap, pgrow, List.set, Value.cells, ↓popG_eq, ↓pop.eq_1, ↓List.getElem?_map, ↓List.getElem?_cons_zero, ↓List.getElem?_cons_succ, Value.oneCell', Nat.reduceAdd, Nat.reduceMul, Nat.reduceSub, Nat.reduceLeDiff, Nat.reduceEqDiff, ↓reduceIte, ne_eq, reduceCtorEq, forall_const, exists_and_left, exists_eq_left', eq_self, Nat.reduceLT, Int.reduceLT, Int.reduceLE, Int.reduceToNat, Int.reduceAdd, Int.reduceSub, Int.reduceNeg, hnm, Tryd.tf0, Tryd.tf3, Tryd.tf4, Tryd.tf9, Tryd.tf22, Tryd.tf23, Tryd.tf36, Tryd.tf45, Tryd.teq45, Tryd.teq94, Tryd.teq104, Tryd.teq113, Tryd.teq114, Tryd.call34, hgw, hgx]); repeat (refine And.intro (by omega) ?_))
    | ((with_reducible first | apply WL_nil | apply W_label | apply W_skip | apply W_exit | apply W_ret); try simp only [seqK, blockK, scopeK, ↓reduceIte, Nat.reduceEqDiff])
    | (with_reducible apply pguard_intro <;> (intro hc; (try simp only [hcb, reduceCtorEq, forall_const, ne_eq] at hc); first | (exfalso; omega) | (exfalso; exact hc trivial) | refine Ev_in ?_))
    | (with_reducible apply W_cond_k; intro _ _ ea eb; (simp only [condK, cob, opnd, constPV, Nat.reduceEqDiff, Nat.reduceLT, ↓reduceIte, hcb, reduceCtorEq, forall_const, ne_eq]); subst ea eb; first | (refine ⟨fun hc => ?_, fun hc => ?_⟩ <;> first | (exfalso; omega) | (exfalso; exact hc trivial) | skip) | skip)
    | (with_reducible apply hnx; clear hnx nx)
    | (with_reducible refine And.intro (by omega) ?_)
    | (with_reducible refine And.intro ?_ ?_)
    | (clear hnx nx; with_reducible apply hnx; clear hnx nx)
    | (clear hnx nx; clear hnx nx; with_reducible apply hnx; clear hnx nx)
    | (clear hnx nx; clear hnx nx; clear hnx nx; with_reducible apply hnx; clear hnx nx))
      all_goals first
        | exact absurd trivial hc
        | exact fun h => False.elim h
        | (exfalso
           omega)
        | skip
      all_goals
        refine hlp _ (w.length - (i + 1)) ⟨fr 42 [(7, pn (i + 1)), (6, pstr (textF a (w.take (i + 1)))), (1, wP w), (0, ltsP a)], []⟩ (by omega) ?_ ⟨i + 1, by omega, rfl, ?_, rfl⟩
        · rw [ht]
          exact Wk_fr (by simp only [wkb, Nat.reduceEqDiff, Nat.reduceLT, ↓reduceIte, pn]) (Sub_nil _)
        · rw [hsn, List.all_append, hall]
          simp [hin]
    · have hin : inA a w[i] = false := by
        simp only [inA]
        by_cases h1 : 0 ≤ w[i]
        · have h2 : ¬ w[i] ≤ (a.length : Int) - 1 := fun h => hx ⟨h1, h⟩
          simp [h2]
        · simp [h1]
      repeat' (first
    | (with_reducible apply W_seq_k; intro nx hnx)
    | (with_reducible first | apply W_block | apply W_scope)
    | (with_reducible refine W_prune 243 ?_; simp only [prb, Nat.reducePow, Nat.reduceDiv, Nat.reduceMod, Nat.reduceBEq]; with_reducible apply W_region_l)
    | ((first | (with_reducible apply WL_op; intro nx hnx) | with_reducible refine Ev_out ?_); try (simp (maxSteps := 2000000) (disch := omega) only [evb, evd, pbuiltin, constPV, pnck, seqK, blockK, scopeK, pbin, pun, ppick, plen, piaddr, pindex, pfield, pslice, pbound, pconv, pelems, pextract, pmm, PV.mem?, PV.one, PV.cells, pageq, peqs, peq1, pmakes, pstore, pbytes, pmark, pusd, pust, psrc, pkey, pnile, pcap, pgrow, List.set, Value.cells, ↓popG_eq, ↓pop.eq_1, ↓List.getElem?_map, ↓List.getElem?_cons_zero, ↓List.getElem?_cons_succ, Value.oneCell', Nat.reduceAdd, Nat.reduceMul, Nat.reduceSub, Nat.reduceLeDiff, Nat.reduceEqDiff, ↓reduceIte, ne_eq, reduceCtorEq, forall_const, exists_and_left, exists_eq_left', eq_self, Nat.reduceLT, Int.reduceLT, Int.reduceLE, Int.reduceToNat, Int.reduceAdd, Int.reduceSub, Int.reduceNeg, hnm, Tryd.tf0, Tryd.tf3, Tryd.tf4, Tryd.tf9, Tryd.tf22, Tryd.tf23, Tryd.tf36, Tryd.tf45, Tryd.teq45, Tryd.teq94, Tryd.teq104, Tryd.teq113, Tryd.teq114, Tryd.call34, hgw]); repeat (refine And.intro (by omega) ?_))
    | ((with_reducible first | apply WL_nil | apply W_label | apply W_skip | apply W_exit | apply W_ret); try simp only [seqK, blockK, scopeK, ↓reduceIte, Nat.reduceEqDiff])
    | (with_reducible apply pguard_intro <;> (intro hc; (try simp only [hcb, reduceCtorEq, forall_const, ne_eq] at hc); first | (exfalso; omega) | (exfalso; exact hc trivial) | refine Ev_in ?_))
    | (with_reducible apply W_cond_k; intro _ _ ea eb; (simp only [condK, cob, opnd, constPV, Nat.reduceEqDiff, Nat.reduceLT, ↓reduceIte, hcb, reduceCtorEq, forall_const, ne_eq]); subst ea eb; first | (refine ⟨fun hc => ?_, fun hc => ?_⟩ <;> first | (exfalso; omega) | (exfalso; exact hc trivial) | skip) | skip)
    | (with_reducible apply hnx; clear hnx nx)
    | (with_reducible refine And.intro (by omega) ?_)
    | (with_reducible refine And.intro ?_ ?_)
    | (clear hnx nx; with_reducible apply hnx; clear hnx nx)
    | (clear hnx nx; clear hnx nx; with_reducible apply hnx; clear hnx nx)
    | (clear hnx nx; clear hnx nx; clear hnx nx; with_reducible apply hnx; clear hnx nx))
      all_goals first
        | exact absurd trivial hc
        | exact fun h => False.elim h
        | (exfalso
           omega)
        | skip
      all_goals
        refine hfin _ _ (Fin_ret2 rfl rfl (Sub_nil _) ?_); simp only [List.getD_cons_zero, List.getD_cons_succ, fr_getD_cons, fr_getD_nil, Nat.reduceEqDiff, Nat.reduceLT, ↓reduceIte]
        refine ⟨?_, by trivial⟩
        have : w.all (inA a) = false := by
          rw [List.all_eq_false]
          exact ⟨w[i], List.getElem_mem hil, by simp [hin]⟩
        simp [writeF, hv, this]
        rfl
  · have hi2 : i = w.length := by omega
    subst hi2
    rw [List.take_length] at hall
    rw [List.take_length]
    repeat' (first
    | (with_reducible apply W_seq_k; intro nx hnx)
    | (with_reducible first | apply W_block | apply W_scope)
    | (with_reducible refine W_prune 243 ?_; simp only [prb, Nat.reducePow, Nat.reduceDiv, Nat.reduceMod, Nat.reduceBEq]; with_reducible apply W_region_l)
    | ((first | (with_reducible apply WL_op; intro nx hnx) | with_reducible refine Ev_out ?_); try (simp (maxSteps := 2000000) (disch := omega) only [evb, evd, pbuiltin, constPV, pnck, seqK, blockK, scopeK, pbin, pun, ppick, plen, piaddr, pindex, pfield, pslice, pbound, pconv, pelems, pextract, pmm, PV.mem?, PV.one, PV.cells, pageq, peqs, peq1, pmakes, pstore, pbytes, pmark, pusd, pust, psrc, pkey, pnile, pcap, pgrow, List.set, Value.cells, ↓popG_eq, ↓pop.eq_1, ↓List.getElem?_map, ↓List.getElem?_cons_zero, ↓List.getElem?_cons_succ, Value.oneCell', Nat.reduceAdd, Nat.reduceMul, Nat.reduceSub, Nat.reduceLeDiff, Nat.reduceEqDiff, ↓reduceIte, ne_eq, reduceCtorEq, forall_const, exists_and_left, exists_eq_left', eq_self, Nat.reduceLT, Int.reduceLT, Int.reduceLE, Int.reduceToNat, Int.reduceAdd, Int.reduceSub, Int.reduceNeg, hnm, Tryd.tf0, Tryd.tf3, Tryd.tf4, Tryd.tf9, Tryd.tf22, Tryd.tf23, Tryd.tf36, Tryd.tf45, Tryd.teq45, Tryd.teq94, Tryd.teq104, Tryd.teq113, Tryd.teq114, Tryd.call34]); repeat (refine And.intro (by omega) ?_))
    | ((with_reducible first | apply WL_nil | apply W_label | apply W_skip | apply W_exit | apply W_ret); try simp only [seqK, blockK, scopeK, ↓reduceIte, Nat.reduceEqDiff])
    | (with_reducible apply pguard_intro <;> (intro hc; (try simp only [hcb, reduceCtorEq, forall_const, ne_eq] at hc); first | (exfalso; omega) | (exfalso; exact hc trivial) | refine Ev_in ?_))
    | (with_reducible apply W_cond_k; intro _ _ ea eb; (simp only [condK, cob, opnd, constPV, Nat.reduceEqDiff, Nat.reduceLT, ↓reduceIte, hcb, reduceCtorEq, forall_const, ne_eq]); subst ea eb; first | (refine ⟨fun hc => ?_, fun hc => ?_⟩ <;> first | (exfalso; omega) | (exfalso; exact hc trivial) | skip) | skip)
    | (with_reducible apply hnx; clear hnx nx)
    | (with_reducible refine And.intro (by omega) ?_)
    | (with_reducible refine And.intro ?_ ?_)
    | (clear hnx nx; with_reducible apply hnx; clear hnx nx)
    | (clear hnx nx; clear hnx nx; with_reducible apply hnx; clear hnx nx)
    | (clear hnx nx; clear hnx nx; clear hnx nx; with_reducible apply hnx; clear hnx nx))
    all_goals first
      | exact absurd trivial hc
      | exact fun h => False.elim h
      | (exfalso
         omega)
      | skip
    all_goals
      refine hfin _ _ (Fin_ret2 rfl rfl (Sub_nil _) ?_); simp only [List.getD_cons_zero, List.getD_cons_succ, fr_getD_cons, fr_getD_nil, Nat.reduceEqDiff, Nat.reduceLT, ↓reduceIte]
      refine ⟨?_, by trivial⟩
      simp [writeF, hv, hall]
end Go.PM

namespace Go.PM
open Go.Proofs
attribute [local irreducible] W PCalls pcall pcallI WL
set_option maxRecDepth 100000
set_option maxHeartbeats 8000000
def foldG (a : List Ltr) (x : Int) : Int := if validF a then fold1 a x else x
theorem foldF_map (a : List Ltr) (w : List Int) : foldF a w = w.map (foldG a) := by
  unfold foldF
  cases hv : validF a with
  | true => simp [foldG, hv]
  | false =>
    have : foldG a = id := by funext x; simp [foldG, hv]
    simp [this]
theorem rfold_r (G : Globs) (a : List Ltr) (w : List Int) (ha : HA a) (hw : w.length ≤ 100000000) : PCalls Tryd.prog G 28 [ltsP a, wP w] [] (CRI (foldF a w)) := by
  have c1 := rvalid_c G a ha
  obtain ⟨b, hb⟩ : ∃ b, b = validF a := ⟨_, rfl⟩
  rw [← hb] at c1
  rw [foldF_map]
  (refine PCalls_f Tryd.func28 rfl Tryd.ntmps28 Tryd.results28 (by simp) fun fin hfin => ?_; have hnm : True := trivial; simp (maxSteps := 2000000) (disch := omega) only [evb, evd, pbuiltin, constPV, pnck, seqK, blockK, scopeK, pbin, pun, ppick, plen, piaddr, pindex, pfield, pslice, pbound, pconv, pelems, pextract, pmm, PV.mem?, PV.one, PV.cells, pageq, peqs, peq1, pmakes, pstore, pbytes, pmark, pusd, pust, psrc, pkey, pnile, pcap, pgrow, List.set, Value.cells, ↓popG_eq, ↓pop.eq_1, ↓List.getElem?_map, ↓List.getElem?_cons_zero, ↓List.getElem?_cons_succ, Value.oneCell', Nat.reduceAdd, Nat.reduceMul, Nat.reduceSub, Nat.reduceLeDiff, Nat.reduceEqDiff, ↓reduceIte, ne_eq, reduceCtorEq, forall_const, exists_and_left, exists_eq_left', eq_self, Nat.reduceLT, Int.reduceLT, Int.reduceLE, Int.reduceToNat, Int.reduceAdd, Int.reduceSub, Int.reduceNeg, hnm, Tryd.tf0, Tryd.tf1, Tryd.tf3, Tryd.tf4, Tryd.tf22, Tryd.tf23, Tryd.tf45, Tryd.teq45, Tryd.teq94, Tryd.teq104, Tryd.teq113, Tryd.teq114, Tryd.call34])
  repeat' (first
    | (with_reducible apply W_seq_k; intro nx hnx)
    | (with_reducible first | apply W_block | apply W_scope)
    | (with_reducible refine W_prune 499 ?_; simp only [prb, Nat.reducePow, Nat.reduceDiv, Nat.reduceMod, Nat.reduceBEq]; with_reducible apply W_region_l)
    | ((first | (with_reducible apply WL_op; intro nx hnx) | with_reducible refine Ev_out ?_ | (with_reducible refine pfresh_k hnm fun nm hnm => ?_; (try simp only [fmb] at hnm)) | (with_reducible refine pborn_mu hnm fun nm hnm => ?_; (try simp only [fmb] at hnm))); try (simp (maxSteps := 2000000) (disch := omega) only [evb, evd, pbuiltin, constPV, pnck, seqK, blockK, scopeK, pbin, pun, ppick, plen, piaddr, pindex, pfield, pslice, pbound, pconv, pelems, pextract, pmm, PV.mem?, PV.one, PV.cells, pageq, peqs, peq1, pmakes, pstore, pbytes, pmark, pusd, pust, psrc, pkey, pnile, pcap, pgrow, List.set, Value.cells, ↓popG_eq, ↓pop.eq_1, ↓List.getElem?_map, ↓List.getElem?_cons_zero, ↓List.getElem?_cons_succ, Value.oneCell', Nat.reduceAdd, Nat.reduceMul, Nat.reduceSub, Nat.reduceLeDiff, Nat.reduceEqDiff, ↓reduceIte, ne_eq, reduceCtorEq, forall_const, exists_and_left, exists_eq_left', eq_self, Nat.reduceLT, Int.reduceLT, Int.reduceLE, Int.reduceToNat, Int.reduceAdd, Int.reduceSub, Int.reduceNeg, hnm, Tryd.tf0, Tryd.tf1, Tryd.tf3, Tryd.tf4, Tryd.tf22, Tryd.tf23, Tryd.tf45, Tryd.teq45, Tryd.teq94, Tryd.teq104, Tryd.teq113, Tryd.teq114, Tryd.call34]); repeat (refine And.intro (by omega) ?_))
    | ((with_reducible first | apply WL_nil | apply W_label | apply W_skip | apply W_exit | apply W_ret); try simp only [seqK, blockK, scopeK, ↓reduceIte, Nat.reduceEqDiff])
    | (with_reducible apply pguard_intro <;> (intro hc; (try simp only [hcb, reduceCtorEq, forall_const, ne_eq] at hc); first | (exfalso; omega) | (exfalso; exact hc trivial) | refine Ev_in ?_))
    | (with_reducible apply W_cond_k; intro _ _ ea eb; (simp only [condK, cob, opnd, constPV, Nat.reduceEqDiff, Nat.reduceLT, ↓reduceIte, hcb, reduceCtorEq, forall_const, ne_eq]); subst ea eb; first | (refine ⟨fun hc => ?_, fun hc => ?_⟩ <;> first | (exfalso; omega) | (exfalso; exact hc trivial) | skip) | skip)
    | (with_reducible apply hnx; clear hnx nx)
    | (with_reducible refine And.intro (by omega) ?_)
    | (with_reducible refine And.intro ?_ ?_)
    | (with_reducible refine pcall_k (c1) ?_; rintro _ _ ⟨rfl, rfl⟩ -; refine Ev_in ?_)
    | (clear hnx nx; with_reducible apply hnx; clear hnx nx)
    | (clear hnx nx; clear hnx nx; with_reducible apply hnx; clear hnx nx)
    | (clear hnx nx; clear hnx nx; clear hnx nx; with_reducible apply hnx; clear hnx nx))
  refine W_loop_k (fun z τ => ∃ (i : Nat) (o : PV) (HO : Heap), i ≤ w.length ∧ z = w.length - i ∧ CRI ((w.take i).map (foldG a)) o HO ∧ τ = ⟨fr 42 [(7, pn i), (6, pbool b), (5, o), (1, wP w), (0, ltsP a)], HO⟩) w.length
    ⟨fr 42 [(7, pn 0), (6, pbool b), (5, pnil), (1, wP w), (0, ltsP a)], []⟩ (by
    exact Wk_fr (by simp only [wkb, Nat.reduceEqDiff, Nat.reduceLT, ↓reduceIte, pn]) (Sub_nil _)) ⟨0, _, _, by omega, by omega, .inl ⟨rfl, rfl, rfl⟩, rfl⟩ ?_
  rintro z τ ⟨i, o, HO, hi, rfl, hC, rfl⟩ lp hlp
  by_cases hil : i < w.length
  · have hgw : w[i]? = some w[i] := List.getElem?_eq_getElem hil
    have hsn : (w.take (i + 1)).map (foldG a) = (w.take i).map (foldG a) ++ [foldG a w[i]] := by rw [List.take_add_one, List.getElem?_eq_getElem hil, List.map_append]; rfl
    have hl : ((w.take i).map (foldG a)).length = i := by simp; omega
    by_cases hx : b = true ∧ 0 ≤ w[i] ∧ w[i] < (a.length : Int)
    · obtain ⟨hb1, hx1, hx2⟩ := hx
      have hj : w[i].toNat < a.length := by omega
      have hgx : a[w[i].toNat]? = some a[w[i].toNat] := List.getElem?_eq_getElem hj
      have hy : foldG a w[i] = a[w[i].toNat].base := by
        rw [foldG, if_pos (by rw [← hb, hb1]), fold1, if_pos (inA_iff.2 (by omega)), List.getD_eq_getElem?_getD, hgx]
        rfl
      rw [hy] at hsn
      generalize (w.take i).map (foldG a) = u at *
      rcases hC with ⟨hu0, rfl, rfl⟩ | ⟨n, rfl, rfl⟩
      · subst hu0
        repeat' (first
    | (with_reducible apply W_seq_k; intro nx hnx)
    | (with_reducible first | apply W_block | apply W_scope)
    | (with_reducible refine W_prune 499 ?_; simp only [prb, Nat.reducePow, Nat.reduceDiv, Nat.reduceMod, Nat.reduceBEq]; with_reducible apply W_region_l)
    | ((first | (with_reducible apply WL_op; intro nx hnx) | with_reducible refine Ev_out ?_ | (with_reducible refine pfresh_k hnm fun nm hnm => ?_; (try simp only [fmb] at hnm)) | (with_reducible refine pborn_mu hnm fun nm hnm => ?_; (try simp only [fmb] at hnm))); try (simp (maxSteps := 2000000) (disch := omega) only [evb, evd, pbuiltin, constPV, pnck, seqK, blockK, scopeK, pbin, pun, ppick, plen, piaddr, pindex, pfield, pslice, pbound, pconv, pelems, pextract, pmm, PV.mem?, PV.one, PV.cells, pageq, peqs, peq1, pmakes, pstore, pbytes, pmark, pusd, pust, psrc, pkey, pnile, pcap, pgrow, List.set, Value.cells, ↓popG_eq, ↓pop.eq_1, ↓List.getElem?_map, ↓List.getElem?_cons_zero, ↓List.getElem?_cons_succ, Value.oneCell', Nat.reduceAdd, Nat.reduceMul, Nat.reduceSub, Nat.reduceLeDiff, Nat.reduceEqDiff, ↓reduceIte, ne_eq, reduceCtorEq, forall_const, exists_and_left, exists_eq_left', eq_self, Nat.reduceLT, Int.reduceLT, Int.reduceLE, Int.reduceToNat, Int.reduceAdd, Int.reduceSub, Int.reduceNeg, hnm, Tryd.tf0, Tryd.tf1, Tryd.tf3, Tryd.tf4, Tryd.tf22, Tryd.tf23, Tryd.tf45, Tryd.teq45, Tryd.teq94, Tryd.teq104, Tryd.teq113, Tryd.teq114, Tryd.call34, hb1, hgw, hgx]); repeat (refine And.intro (by omega) ?_))
    | ((with_reducible first | apply WL_nil | apply W_label | apply W_skip | apply W_exit | apply W_ret); try simp only [seqK, blockK, scopeK, ↓reduceIte, Nat.reduceEqDiff])
    | (with_reducible apply pguard_intro <;> (intro hc; (try simp only [hcb, reduceCtorEq, forall_const, ne_eq] at hc); first | (exfalso; omega) | (exfalso; exact hc trivial) | refine Ev_in ?_))
    | (with_reducible apply W_cond_k; intro _ _ ea eb; (simp only [condK, cob, opnd, constPV, Nat.reduceEqDiff, Nat.reduceLT, ↓reduceIte, hcb, reduceCtorEq, forall_const, ne_eq]); subst ea eb; first | (refine ⟨fun hc => ?_, fun hc => ?_⟩ <;> first | (exfalso; omega) | (exfalso; exact hc trivial) | skip) | skip)
    | (with_reducible apply hnx; clear hnx nx)
    | (with_reducible refine And.intro (by omega) ?_)
    | (with_reducible refine And.intro ?_ ?_)
    | (clear hnx nx; with_reducible apply hnx; clear hnx nx)
    | (clear hnx nx; clear hnx nx; with_reducible apply hnx; clear hnx nx)
    | (clear hnx nx; clear hnx nx; clear hnx nx; with_reducible apply hnx; clear hnx nx))
        all_goals first
          | exact absurd trivial hc
          | exact fun h => False.elim h
          | (exfalso
             omega)
          | skip
        all_goals
          have hl1 : (([] : List Int) ++ [a[w[i].toNat].base]).length = 1 := by simp
          refine hlp _ (w.length - (i + 1)) ⟨fr 42 [(7, pn (i + 1)), (6, pbool b), (5, .row nm 1 (([] : List Int) ++ [a[w[i].toNat].base]).length), (1, wP w), (0, ltsP a)], [(nm, ⟨3, true, 1, (([] : List Int) ++ [a[w[i].toNat].base]).map (pint .i64)⟩)]⟩ (by omega) ?_ ⟨i + 1, _, _, by omega, rfl, by rw [hsn]; exact .inr ⟨nm, rfl, rfl⟩, rfl⟩
          refine Wk_fr (by simp only [wkb, Nat.reduceEqDiff, Nat.reduceLT, ↓reduceIte, pn, hb1, hl1]) ?_
          all_goals
            (try rw [List.map_append])
            refine ⟨fun x hx => ?_, by simp [names, hnm]⟩
            simp only [List.mem_cons, List.not_mem_nil, or_false] at hx ⊢
            first
              | exact hx
              | exact .inl hx
      · skip
        repeat' (first
    | (with_reducible apply W_seq_k; intro nx hnx)
    | (with_reducible first | apply W_block | apply W_scope)
    | (with_reducible refine W_prune 499 ?_; simp only [prb, Nat.reducePow, Nat.reduceDiv, Nat.reduceMod, Nat.reduceBEq]; with_reducible apply W_region_l)
    | ((first | (with_reducible apply WL_op; intro nx hnx) | with_reducible refine Ev_out ?_ | (with_reducible refine pfresh_k hnm fun nm hnm => ?_; (try simp only [fmb] at hnm)) | (with_reducible refine pborn_mu hnm fun nm hnm => ?_; (try simp only [fmb] at hnm))); try (simp (maxSteps := 2000000) (disch := omega) only [evb, evd, pbuiltin, constPV, pnck, seqK, blockK, scopeK, pbin, pun, ppick, plen, piaddr, pindex, pfield, pslice, pbound, pconv, pelems, pextract, pmm, PV.mem?, PV.one, PV.cells, pageq, peqs, peq1, pmakes, pstore, pbytes, pmark, pusd, pust, psrc, pkey, pnile, pcap, pgrow, List.set, Value.cells, ↓popG_eq, ↓pop.eq_1, ↓List.getElem?_map, ↓List.getElem?_cons_zero, ↓List.getElem?_cons_succ, Value.oneCell', Nat.reduceAdd, Nat.reduceMul, Nat.reduceSub, Nat.reduceLeDiff, Nat.reduceEqDiff, ↓reduceIte, ne_eq, reduceCtorEq, forall_const, exists_and_left, exists_eq_left', eq_self, Nat.reduceLT, Int.reduceLT, Int.reduceLE, Int.reduceToNat, Int.reduceAdd, Int.reduceSub, Int.reduceNeg, hnm, Tryd.tf0, Tryd.tf1, Tryd.tf3, Tryd.tf4, Tryd.tf22, Tryd.tf23, Tryd.tf45, Tryd.teq45, Tryd.teq94, Tryd.teq104, Tryd.teq113, Tryd.teq114, Tryd.call34, hb1, hgw, hgx]); repeat (refine And.intro (by omega) ?_))
    | ((with_reducible first | apply WL_nil | apply W_label | apply W_skip | apply W_exit | apply W_ret); try simp only [seqK, blockK, scopeK, ↓reduceIte, Nat.reduceEqDiff])
    | (with_reducible apply pguard_intro <;> (intro hc; (try simp only [hcb, reduceCtorEq, forall_const, ne_eq] at hc); first | (exfalso; omega) | (exfalso; exact hc trivial) | refine Ev_in ?_))
    | (with_reducible apply W_cond_k; intro _ _ ea eb; (simp only [condK, cob, opnd, constPV, Nat.reduceEqDiff, Nat.reduceLT, ↓reduceIte, hcb, reduceCtorEq, forall_const, ne_eq]); subst ea eb; first | (refine ⟨fun hc => ?_, fun hc => ?_⟩ <;> first | (exfalso; omega) | (exfalso; exact hc trivial) | skip) | skip)
    | (with_reducible apply hnx; clear hnx nx)
    | (with_reducible refine And.intro (by omega) ?_)
    | (with_reducible refine And.intro ?_ ?_)
    | (clear hnx nx; with_reducible apply hnx; clear hnx nx)
    | (clear hnx nx; clear hnx nx; with_reducible apply hnx; clear hnx nx)
    | (clear hnx nx; clear hnx nx; clear hnx nx; with_reducible apply hnx; clear hnx nx))
        all_goals first
          | exact absurd trivial hc
          | exact fun h => False.elim h
          | (exfalso
             omega)
          | skip
        all_goals
          have hl1 : (u ++ [a[w[i].toNat].base]).length = u.length + 1 := by simp
          refine hlp _ (w.length - (i + 1)) ⟨fr 42 [(7, pn (i + 1)), (6, pbool b), (5, .row nm 1 (u ++ [a[w[i].toNat].base]).length), (1, wP w), (0, ltsP a)], [(nm, ⟨3, true, 1, (u ++ [a[w[i].toNat].base]).map (pint .i64)⟩)]⟩ (by omega) ?_ ⟨i + 1, _, _, by omega, rfl, by rw [hsn]; exact .inr ⟨nm, rfl, rfl⟩, rfl⟩
          refine Wk_fr (by simp only [wkb, Nat.reduceEqDiff, Nat.reduceLT, ↓reduceIte, pn, hb1, hl1]) ?_
          all_goals
            (try rw [List.map_append])
            refine ⟨fun x hx => ?_, by simp [names, hnm]⟩
            simp only [List.mem_cons, List.not_mem_nil, or_false] at hx ⊢
            first
              | exact hx
              | exact .inl hx
    · have hy : foldG a w[i] = w[i] := by
        rw [foldG]
        split
        · rename_i hv
          rw [fold1, if_neg fun h => hx ⟨by rw [hb, hv], by have := inA_iff.1 h; omega⟩]
        · rfl
      rw [hy] at hsn
      generalize (w.take i).map (foldG a) = u at *
      have hx0 := hx
      have hx : b = false ∨ (b = true ∧ ¬ 0 ≤ w[i]) ∨ (b = true ∧ ¬ w[i] < (a.length : Int)) := by
        cases b with
        | false => exact .inl rfl
        | true =>
          refine .inr ?_
          by_cases h1 : 0 ≤ w[i]
          · exact .inr ⟨rfl, fun h => hx ⟨rfl, h1, h⟩⟩
          · exact .inl ⟨rfl, h1⟩
      clear c1 hb
      rcases hC with ⟨hu0, rfl, rfl⟩ | ⟨n, rfl, rfl⟩
      · subst hu0
        repeat' (first
    | (with_reducible apply W_seq_k; intro nx hnx)
    | (with_reducible first | apply W_block | apply W_scope)
    | (with_reducible refine W_prune 499 ?_; simp only [prb, Nat.reducePow, Nat.reduceDiv, Nat.reduceMod, Nat.reduceBEq]; with_reducible apply W_region_l)
    | ((first | (with_reducible apply WL_op; intro nx hnx) | with_reducible refine Ev_out ?_ | (with_reducible refine pfresh_k hnm fun nm hnm => ?_; (try simp only [fmb] at hnm)) | (with_reducible refine pborn_mu hnm fun nm hnm => ?_; (try simp only [fmb] at hnm))); try (simp (maxSteps := 2000000) (disch := omega) only [evb, evd, pbuiltin, constPV, pnck, seqK, blockK, scopeK, pbin, pun, ppick, plen, piaddr, pindex, pfield, pslice, pbound, pconv, pelems, pextract, pmm, PV.mem?, PV.one, PV.cells, pageq, peqs, peq1, pmakes, pstore, pbytes, pmark, pusd, pust, psrc, pkey, pnile, pcap, pgrow, List.set, Value.cells, ↓popG_eq, ↓pop.eq_1, ↓List.getElem?_map, ↓List.getElem?_cons_zero, ↓List.getElem?_cons_succ, Value.oneCell', Nat.reduceAdd, Nat.reduceMul, Nat.reduceSub, Nat.reduceLeDiff, Nat.reduceEqDiff, ↓reduceIte, ne_eq, reduceCtorEq, forall_const, exists_and_left, exists_eq_left', eq_self, Nat.reduceLT, Int.reduceLT, Int.reduceLE, Int.reduceToNat, Int.reduceAdd, Int.reduceSub, Int.reduceNeg, hnm, Tryd.tf0, Tryd.tf1, Tryd.tf3, Tryd.tf4, Tryd.tf22, Tryd.tf23, Tryd.tf45, Tryd.teq45, Tryd.teq94, Tryd.teq104, Tryd.teq113, Tryd.teq114, Tryd.call34, hgw]); repeat (refine And.intro (by omega) ?_))
    | ((with_reducible first | apply WL_nil | apply W_label | apply W_skip | apply W_exit | apply W_ret); try simp only [seqK, blockK, scopeK, ↓reduceIte, Nat.reduceEqDiff])
    | (with_reducible apply pguard_intro <;> (intro hc; (try simp only [hcb, reduceCtorEq, forall_const, ne_eq] at hc); first | (exfalso; omega) | (exfalso; exact hc trivial) | refine Ev_in ?_))
    | (with_reducible apply W_cond_k; intro _ _ ea eb; (simp only [condK, cob, opnd, constPV, Nat.reduceEqDiff, Nat.reduceLT, ↓reduceIte, hcb, reduceCtorEq, forall_const, ne_eq]); subst ea eb; first | (refine ⟨fun hc => ?_, fun hc => ?_⟩ <;> first | (exfalso; omega) | (exfalso; exact hc trivial) | skip) | skip)
    | (with_reducible apply hnx; clear hnx nx)
    | (with_reducible refine And.intro (by omega) ?_)
    | (with_reducible refine And.intro ?_ ?_)
    | (clear hnx nx; with_reducible apply hnx; clear hnx nx)
    | (clear hnx nx; clear hnx nx; with_reducible apply hnx; clear hnx nx)
    | (clear hnx nx; clear hnx nx; clear hnx nx; with_reducible apply hnx; clear hnx nx))
        all_goals first
          | exact absurd trivial hc
          | exact fun h => False.elim h
          | exact absurd ⟨(by assumption : b = true), (by omega : 0 ≤ w[i]), (by omega : w[i] < (a.length : Int))⟩ hx0
          | (exfalso
             omega)
          | skip
        all_goals
          have hl1 : (([] : List Int) ++ [w[i]]).length = 1 := by simp
          refine hlp _ (w.length - (i + 1)) ⟨fr 42 [(7, pn (i + 1)), (6, pbool b), (5, .row nm 1 (([] : List Int) ++ [w[i]]).length), (1, wP w), (0, ltsP a)], [(nm, ⟨3, true, 1, (([] : List Int) ++ [w[i]]).map (pint .i64)⟩)]⟩ (by omega) ?_ ⟨i + 1, _, _, by omega, rfl, by rw [hsn]; exact .inr ⟨nm, rfl, rfl⟩, rfl⟩
          refine Wk_fr (by simp only [wkb, Nat.reduceEqDiff, Nat.reduceLT, ↓reduceIte, pn, hl1]) ?_
          all_goals
            (try rw [List.map_append])
            refine ⟨fun x hx => ?_, by simp [names, hnm]⟩
            simp only [List.mem_cons, List.not_mem_nil, or_false] at hx ⊢
            first
              | exact hx
              | exact .inl hx
      · skip
        repeat' (first
    | (with_reducible apply W_seq_k; intro nx hnx)
    | (with_reducible first | apply W_block | apply W_scope)
    | (with_reducible refine W_prune 499 ?_; simp only [prb, Nat.reducePow, Nat.reduceDiv, Nat.reduceMod, Nat.reduceBEq]; with_reducible apply W_region_l)
    | ((first | (with_reducible apply WL_op; intro nx hnx) | with_reducible refine Ev_out ?_ | (with_reducible refine pfresh_k hnm fun nm hnm => ?_; (try simp only [fmb] at hnm)) | (with_reducible refine pborn_mu hnm fun nm hnm => ?_; (try simp only [fmb] at hnm))); try (simp (maxSteps := 2000000) (disch := omega) only [evb, evd, pbuiltin, constPV, pnck, seqK, blockK, scopeK, pbin, pun, ppick, plen, piaddr, pindex, pfield, pslice, pbound, pconv, pelems, pextract, pmm, PV.mem?, PV.one, PV.cells, pageq, peqs, peq1, pmakes, pstore, pbytes, pmark, pusd, pust, psrc, pkey, pnile, pcap, pgrow, List.set, Value.cells, ↓popG_eq, ↓pop.eq_1, ↓List.getElem?_map, ↓List.getElem?_cons_zero, ↓List.getElem?_cons_succ, Value.oneCell', Nat.reduceAdd, Nat.reduceMul, Nat.reduceSub, Nat.reduceLeDiff, Nat.reduceEqDiff, ↓reduceIte, ne_eq, reduceCtorEq, forall_const, exists_and_left, exists_eq_left', eq_self, Nat.reduceLT, Int.reduceLT, Int.reduceLE, Int.reduceToNat, Int.reduceAdd, Int.reduceSub, Int.reduceNeg, hnm, Tryd.tf0, Tryd.tf1, Tryd.tf3, Tryd.tf4, Tryd.tf22, Tryd.tf23, Tryd.tf45, Tryd.teq45, Tryd.teq94, Tryd.teq104, Tryd.teq113, Tryd.teq114, Tryd.call34, hgw]); repeat (refine And.intro (by omega) ?_))
    | ((with_reducible first | apply WL_nil | apply W_label | apply W_skip | apply W_exit | apply W_ret); try simp only [seqK, blockK, scopeK, ↓reduceIte, Nat.reduceEqDiff])
    | (with_reducible apply pguard_intro <;> (intro hc; (try simp only [hcb, reduceCtorEq, forall_const, ne_eq] at hc); first | (exfalso; omega) | (exfalso; exact hc trivial) | refine Ev_in ?_))
    | (with_reducible apply W_cond_k; intro _ _ ea eb; (simp only [condK, cob, opnd, constPV, Nat.reduceEqDiff, Nat.reduceLT, ↓reduceIte, hcb, reduceCtorEq, forall_const, ne_eq]); subst ea eb; first | (refine ⟨fun hc => ?_, fun hc => ?_⟩ <;> first | (exfalso; omega) | (exfalso; exact hc trivial) | skip) | skip)
    | (with_reducible apply hnx; clear hnx nx)
    | (with_reducible refine And.intro (by omega) ?_)
    | (with_reducible refine And.intro ?_ ?_)
    | (clear hnx nx; with_reducible apply hnx; clear hnx nx)
    | (clear hnx nx; clear hnx nx; with_reducible apply hnx; clear hnx nx)
    | (clear hnx nx; clear hnx nx; clear hnx nx; with_reducible apply hnx; clear hnx nx))
        all_goals first
          | exact absurd trivial hc
          | exact fun h => False.elim h
          | exact absurd ⟨(by assumption : b = true), (by omega : 0 ≤ w[i]), (by omega : w[i] < (a.length : Int))⟩ hx0
          | (exfalso
             omega)
          | skip
        all_goals
          have hl1 : (u ++ [w[i]]).length = u.length + 1 := by simp
          refine hlp _ (w.length - (i + 1)) ⟨fr 42 [(7, pn (i + 1)), (6, pbool b), (5, .row nm 1 (u ++ [w[i]]).length), (1, wP w), (0, ltsP a)], [(nm, ⟨3, true, 1, (u ++ [w[i]]).map (pint .i64)⟩)]⟩ (by omega) ?_ ⟨i + 1, _, _, by omega, rfl, by rw [hsn]; exact .inr ⟨nm, rfl, rfl⟩, rfl⟩
          refine Wk_fr (by simp only [wkb, Nat.reduceEqDiff, Nat.reduceLT, ↓reduceIte, pn, hl1]) ?_
          all_goals
            (try rw [List.map_append])
            refine ⟨fun x hx => ?_, by simp [names, hnm]⟩
            simp only [List.mem_cons, List.not_mem_nil, or_false] at hx ⊢
            first
              | exact hx
              | exact .inl hx
  · have hi2 : i = w.length := by omega
    subst hi2
    rw [List.take_length] at hC
    refine W_nd fun nd => ?_
    repeat' (first
    | (with_reducible apply W_seq_k; intro nx hnx)
    | (with_reducible first | apply W_block | apply W_scope)
    | (with_reducible refine W_prune 499 ?_; simp only [prb, Nat.reducePow, Nat.reduceDiv, Nat.reduceMod, Nat.reduceBEq]; with_reducible apply W_region_l)
    | ((first | (with_reducible apply WL_op; intro nx hnx) | with_reducible refine Ev_out ?_ | (with_reducible refine pfresh_k hnm fun nm hnm => ?_; (try simp only [fmb] at hnm)) | (with_reducible refine pborn_mu hnm fun nm hnm => ?_; (try simp only [fmb] at hnm))); try (simp (maxSteps := 2000000) (disch := omega) only [evb, evd, pbuiltin, constPV, pnck, seqK, blockK, scopeK, pbin, pun, ppick, plen, piaddr, pindex, pfield, pslice, pbound, pconv, pelems, pextract, pmm, PV.mem?, PV.one, PV.cells, pageq, peqs, peq1, pmakes, pstore, pbytes, pmark, pusd, pust, psrc, pkey, pnile, pcap, pgrow, List.set, Value.cells, ↓popG_eq, ↓pop.eq_1, ↓List.getElem?_map, ↓List.getElem?_cons_zero, ↓List.getElem?_cons_succ, Value.oneCell', Nat.reduceAdd, Nat.reduceMul, Nat.reduceSub, Nat.reduceLeDiff, Nat.reduceEqDiff, ↓reduceIte, ne_eq, reduceCtorEq, forall_const, exists_and_left, exists_eq_left', eq_self, Nat.reduceLT, Int.reduceLT, Int.reduceLE, Int.reduceToNat, Int.reduceAdd, Int.reduceSub, Int.reduceNeg, hnm, Tryd.tf0, Tryd.tf1, Tryd.tf3, Tryd.tf4, Tryd.tf22, Tryd.tf23, Tryd.tf45, Tryd.teq45, Tryd.teq94, Tryd.teq104, Tryd.teq113, Tryd.teq114, Tryd.call34]); repeat (refine And.intro (by omega) ?_))
    | ((with_reducible first | apply WL_nil | apply W_label | apply W_skip | apply W_exit | apply W_ret); try simp only [seqK, blockK, scopeK, ↓reduceIte, Nat.reduceEqDiff])
    | (with_reducible apply pguard_intro <;> (intro hc; (try simp only [hcb, reduceCtorEq, forall_const, ne_eq] at hc); first | (exfalso; omega) | (exfalso; exact hc trivial) | refine Ev_in ?_))
    | (with_reducible apply W_cond_k; intro _ _ ea eb; (simp only [condK, cob, opnd, constPV, Nat.reduceEqDiff, Nat.reduceLT, ↓reduceIte, hcb, reduceCtorEq, forall_const, ne_eq]); subst ea eb; first | (refine ⟨fun hc => ?_, fun hc => ?_⟩ <;> first | (exfalso; omega) | (exfalso; exact hc trivial) | skip) | skip)
    | (with_reducible apply hnx; clear hnx nx)
    | (with_reducible refine And.intro (by omega) ?_)
    | (with_reducible refine And.intro ?_ ?_)
    | (clear hnx nx; with_reducible apply hnx; clear hnx nx)
    | (clear hnx nx; clear hnx nx; with_reducible apply hnx; clear hnx nx)
    | (clear hnx nx; clear hnx nx; clear hnx nx; with_reducible apply hnx; clear hnx nx))
    all_goals first
      | exact absurd trivial hc
      | exact fun h => False.elim h
      | (exfalso
         omega)
      | skip
    all_goals
      refine hfin _ _ (Fin_ret1 rfl (Sub_refl nd) ?_)
      simp only [fr_getD_cons, Nat.reduceEqDiff, Nat.reduceLT, ↓reduceIte]
      exact hC
end Go.PM

namespace Go.PM
open Go.Proofs
theorem idx_cases (c : UInt8) : ∀ s : List UInt8, (Lib.indexByte s c = -1 ∧ c ∉ s) ∨ ∃ t r, s = t ++ c :: r ∧ c ∉ t ∧ Lib.indexByte s c = t.length
  | [] => .inl ⟨rfl, by simp⟩
  | x :: r => by
    unfold Lib.indexByte
    by_cases hx : x = c
    · subst hx
      exact .inr ⟨[], r, rfl, by simp, by simp⟩
    · have hb : (x == c) = false := by simpa using hx
      rw [hb]
      simp only [Bool.false_eq_true, if_false]
      rcases idx_cases c r with ⟨h1, h2⟩ | ⟨t, r', h1, h2, h3⟩
      · rw [h1]
        refine .inl ⟨by simp, ?_⟩
        rw [List.mem_cons, not_or]
        exact ⟨fun e => hx e.symm, h2⟩
      · refine .inr ⟨x :: t, r', by rw [h1]; rfl, ?_, ?_⟩
        · rw [List.mem_cons, not_or]
          exact ⟨fun e => hx e.symm, h2⟩
        · rw [h3]
          have : ((t.length : Int) == -1) = false := by
            rw [beq_eq_false_iff_ne]
            omega
          rw [this]
          simp
/-- The parts of a text between the occurrences of a byte. -/
def splitF (c : UInt8) : List UInt8 → List (List UInt8)
  | [] => [[]]
  | x :: r => if x = c then [] :: splitF c r else match splitF c r with
    | [] => [[x]]
    | h :: t => (x :: h) :: t
theorem splitF_cut {c : UInt8} {r : List UInt8} : ∀ {t : List UInt8}, c ∉ t → splitF c (t ++ c :: r) = t :: splitF c r
  | [], _ => by simp [splitF]
  | x :: t, h => by
    rw [List.mem_cons, not_or] at h
    have hx : ¬ x = c := fun e => h.1 e.symm
    rw [List.cons_append, splitF, if_neg hx, splitF_cut h.2]
theorem splitF_none {c : UInt8} : ∀ {t : List UInt8}, c ∉ t → splitF c t = [t]
  | [], _ => rfl
  | x :: t, h => by
    rw [List.mem_cons, not_or] at h
    have hx : ¬ x = c := fun e => h.1 e.symm
    rw [splitF, if_neg hx, splitF_none h.2]
theorem splitF_len (c : UInt8) : ∀ s : List UInt8, (splitF c s).length = s.count c + 1
  | [] => rfl
  | x :: r => by
    have h := splitF_len c r
    rw [splitF]
    split
    · rename_i hx
      subst hx
      rw [List.length_cons, h, List.count_cons_self]
    · rename_i hx
      rw [List.count_cons_of_ne hx]
      split
      · rename_i h2
        rw [h2] at h
        simp at h
      · rename_i h2
        rw [h2] at h
        simpa using h
theorem splitF_ne {c : UInt8} {s : List UInt8} : splitF c s ≠ [] := by
  intro h
  have := splitF_len c s
  rw [h] at this
  simp at this
theorem splitF_mem (c : UInt8) : ∀ (s : List UInt8), ∀ p ∈ splitF c s, p.length ≤ s.length
  | [] => by simp [splitF]
  | x :: r => by
    have h := splitF_mem c r
    rw [splitF]
    split
    · intro p hp
      rcases List.mem_cons.1 hp with rfl | hp
      · simp
      · have := h p hp
        simp only [List.length_cons]
        omega
    · split
      · intro p hp
        simp only [List.mem_cons, List.not_mem_nil, or_false] at hp
        subst hp
        simp
      · rename_i y t h2
        rw [h2] at h
        intro p hp
        rcases List.mem_cons.1 hp with rfl | hp
        · have := h y List.mem_cons_self
          simp only [List.length_cons]
          omega
        · have := h p (List.mem_cons_of_mem _ hp)
          simp only [List.length_cons]
          omega
/-- A line of a description: the letter, and the text of its base. -/
def lineF (t : List UInt8) : Option (Ltr × List UInt8) :=
  match splitF 32 t with
  | [x, b, m, k, w] => if x = [] ∨ b = [] then none else if (numF m).2 && ((numF k).2 && (numF w).2) then some (⟨x, 0, (numF m).1, (numF k).1, (numF w).1⟩, b) else none
  | _ => none
/-- The lines of a description up to the first bad one; whether all are good. -/
def readL : List (List UInt8) → List (Ltr × List UInt8) × Bool
  | [] => ([], false)
  | [l] => ([], decide (l = []))
  | l :: m :: r => match lineF l with
    | none => ([], false)
    | some x => (x :: (readL (m :: r)).1, (readL (m :: r)).2)
theorem readL_none {l : List UInt8} {r : List (List UInt8)} (hr : r ≠ []) (h : lineF l = none) : readL (l :: r) = ([], false) := by
  cases r with
  | nil => exact absurd rfl hr
  | cons m r => rw [readL, h]
theorem readL_some {l : List UInt8} {r : List (List UInt8)} {x : Ltr × List UInt8} (hr : r ≠ []) (h : lineF l = some x) : readL (l :: r) = (x :: (readL r).1, (readL r).2) := by
  cases r with
  | nil => exact absurd rfl hr
  | cons m r => rw [readL, h]
/-- The number of the letter with a text. -/
def findT (a : List Ltr) (b : List UInt8) : Option Nat := a.findIdx? fun x => decide (x.text = b)
/-- The letters with their bases. -/
def basedF (q : List (Ltr × List UInt8)) : List Ltr := q.map fun x => { x.1 with base := (findT (q.map Prod.fst) x.2).getD 0 }
def parseF (s : List UInt8) : List Ltr × Int × Int :=
  if 65536 < s.length then ([], 0, 4) else
  if (readL (splitF 10 s)).2 = false then ([], (readL (splitF 10 s)).1.length + 1, 2) else
  match (readL (splitF 10 s)).1.findIdx? fun x => (findT ((readL (splitF 10 s)).1.map Prod.fst) x.2).isNone with
  | some i => ([], i + 1, 6)
  | none => if validF (basedF (readL (splitF 10 s)).1) then (basedF (readL (splitF 10 s)).1, 0, 0) else ([], 0, 1)
end Go.PM

namespace Go.PM
open Go.Proofs
/-- The five cells of a letter. -/
@[reducible] def cellL (x : Ltr) : List PV := [pstr x.text, pint .i64 x.base, pint .i64 x.mark, pint .i64 x.case_, pint .i64 x.width]
/-- The cells of letters, one after the other. -/
def flatL (l : List Ltr) : List PV := l.flatMap cellL
theorem flatL_cons (x : Ltr) (l : List Ltr) : flatL (x :: l) = cellL x ++ flatL l := by simp [flatL]
theorem flatL_len : ∀ l : List Ltr, (flatL l).length = l.length * 5
  | [] => rfl
  | c :: l => by
    have := flatL_len l
    rw [flatL_cons, List.length_append, this]
    simp only [List.length_cons, List.length_nil]
    omega
theorem flatL_app (l m : List Ltr) : flatL (l ++ m) = flatL l ++ flatL m := by simp [flatL]
theorem flatL_snoc (l : List Ltr) (x : Ltr) : flatL (l ++ [x]) = flatL l ++ cellL x := by simp [flatL]
theorem flatL_drop : ∀ (l : List Ltr) (i : Nat), (flatL l).drop (i * 5) = flatL (l.drop i)
  | [], i => by simp [flatL]
  | x :: l, 0 => by simp
  | x :: l, i + 1 => by
    rw [flatL_cons, show (i + 1) * 5 = 5 + i * 5 by omega, List.drop_succ_cons, ← flatL_drop l i, ← List.drop_drop]
    rfl
theorem flatL_at {l : List Ltr} {i : Nat} (h : i < l.length) : ((flatL l).drop (i * 5)).take 5 = cellL l[i] := by
  rw [flatL_drop, List.drop_eq_getElem_cons h, flatL_cons]
  rfl
theorem flatL_get {l : List Ltr} {i : Nat} (h : i < l.length) (j : Nat) (hj : j < 5) : (flatL l)[i * 5 + j]? = (cellL l[i])[j]? := by
  have := congrArg (fun q : List PV => q[j]?) (flatL_at h)
  simp only [List.getElem?_take, List.getElem?_drop, hj, if_true] at this
  exact this
theorem flatL_set {l : List Ltr} {i : Nat} (h : i < l.length) (x : Ltr) : flatL (l.set i x) = (flatL l).take (i * 5) ++ cellL x ++ (flatL l).drop ((i + 1) * 5) := by
  have h1 : (flatL l).take (i * 5) = flatL (l.take i) := by
    have h2 : flatL l = flatL (l.take i) ++ flatL (l.drop i) := by rw [← flatL_app, List.take_append_drop]
    rw [h2, List.take_left' (by rw [flatL_len, List.length_take, Nat.min_eq_left (by omega)])]
  rw [h1, flatL_drop, List.set_eq_take_append_cons_drop, if_pos h, flatL_app, flatL_cons, List.append_assoc]
theorem flatL_base {l : List Ltr} {i : Nat} (h : i < l.length) (k : Int) : List.take (i * 5 + 1) (flatL l) ++ [pint .i64 k] ++ List.drop (i * 5 + 1 + 1) (flatL l) = flatL (l.set i { l[i] with base := k }) := by
  have e1 : List.take (i * 5 + 1) (flatL l) = (flatL l).take (i * 5) ++ [pstr l[i].text] := by
    rw [List.take_add_one, show (flatL l)[i * 5]? = some (pstr l[i].text) from flatL_get h 0 (by omega)]
    rfl
  have e2 : List.drop (i * 5 + 1 + 1) (flatL l) = [pint .i64 l[i].mark, pint .i64 l[i].case_, pint .i64 l[i].width] ++ (flatL l).drop ((i + 1) * 5) := by
    have h3 : (flatL l).drop (i * 5) = cellL l[i] ++ (flatL l).drop ((i + 1) * 5) := by
      rw [flatL_drop, List.drop_eq_getElem_cons h, flatL_cons, ← flatL_drop]
    rw [show i * 5 + 1 + 1 = i * 5 + 2 from rfl, ← List.drop_drop, h3]
    rfl
  rw [e1, e2, flatL_set h]
  simp
theorem elems_flatL : ∀ (l : List Ltr), (List.range l.length).map (fun i => PV.agg (((flatL l).drop (i * 5)).take 5)) = l.map ltP
  | [] => rfl
  | c :: l => by
    rw [List.length_cons, List.range_succ_eq_map, List.map_cons, List.map_cons, List.map_map]
    congr 1
    rw [← elems_flatL l]
    refine List.map_congr_left fun i _ => ?_
    simp only [Function.comp_apply, Nat.succ_eq_add_one]
    rw [show (i + 1) * 5 = i * 5 + 5 by omega]
    show PV.agg (List.take 5 (List.drop (i * 5 + 5) (cellL c ++ flatL l))) = _
    rw [List.drop_append]
    simp
theorem frz_lts (n : Int) (l : List Ltr) : frz n (flatL l) (.row n 5 l.length) = ltsP l := by
  simp only [frz, frz1, if_true, elemsOf]
  rw [if_pos (by rw [flatL_len]; omega), if_neg (by omega), elems_flatL]
/-- Letters in a row, or none. -/
@[reducible] def CRL (l : List Ltr) (res : PV) (H : Heap) : Prop := (l = [] ∧ res = pnil ∧ H = []) ∨ (∃ n : Int, res = .row n 5 l.length ∧ H = [(n, ⟨45, true, 5, flatL l⟩)])
/-- Letters in a row are turned no more. -/
theorem Px_lts {G : Globs} {O : Int} {t1 : TypeId} (l : List Ltr) : Px G (.row O 5 l.length) [(O, ⟨t1, true, 5, flatL l⟩)] (ltsP l) [] := by
  have h := Px.freeze (G := G) (.row O 5 l.length) [(O, ⟨t1, true, 5, flatL l⟩)] O (o := ⟨t1, true, 5, flatL l⟩) (by simp only [look, if_true]) (by simp [frzOk, del])
  simp only [frz_lts] at h
  simpa [frzH, del] using h
theorem CRL.frz {G : Globs} {f : FuncId} {args : List PV} {b : List Ltr} (h : PCalls Tryd.prog G f args [] (CRL b)) : PCalls Tryd.prog G f args [] (fun res H => res = ltsP b ∧ H = []) := by
  refine h.px fun res H hR => ?_
  rcases hR with ⟨rfl, rfl, rfl⟩ | ⟨N, rfl, rfl⟩
  · exact ⟨_, _, Px.nil 5 _, rfl, rfl⟩
  · exact ⟨_, _, Px_lts b, rfl, rfl⟩
end Go.PM

namespace Go.PM
open Go.Proofs
attribute [local irreducible] W PCalls pcall pcallI WL
set_option maxRecDepth 100000
set_option maxHeartbeats 8000000
/-- A number of a machine. -/
@[reducible] def i64 (n : Int) : Prop := -9223372036854775808 ≤ n ∧ n ≤ 9223372036854775807
/-- a number from 0 to below another -/
def arF (n most : Int) : Int := (if n < 0 then -(n + 1) else n) % most
theorem arF_bound (n : Int) {most : Int} (h : 0 < most) : 0 ≤ arF n most ∧ arF n most < most := ⟨Int.emod_nonneg _ (by omega), Int.emod_lt_of_pos _ h⟩
theorem around_c (G : Globs) (n most : Int) (h : 0 < most) (hn : i64 n) (hm : most ≤ 9223372036854775807) : PCalls Tryd.prog G 32 [pint .i64 n, pint .i64 most] [] (fun res H => res = pint .i64 (arF n most) ∧ H = []) := by
  have hb := arF_bound n h
  unfold arF at hb ⊢
  have t1 : (0 - (n + 1)).tmod most = if n < 0 then (-(n + 1)) % most else (0 - (n + 1)).tmod most := by
    split
    · rw [show 0 - (n + 1) = -(n + 1) by omega]
      exact Int.tmod_eq_emod_of_nonneg (by omega)
    · rfl
  have t2 : n.tmod most = if n < 0 then n.tmod most else n % most := by
    split
    · rfl
    · exact Int.tmod_eq_emod_of_nonneg (by omega)
  by_cases h0 : n < 0
  · rw [if_pos h0] at t1 hb ⊢
    generalize (-(n + 1)) % most = r at *
    (refine PCalls_f Tryd.func32 rfl Tryd.ntmps32 Tryd.results32 (by simp) fun fin hfin => ?_; have hnm : True := trivial; simp (maxSteps := 2000000) (disch := omega) only [evb, evd, pbuiltin, constPV, pnck, seqK, blockK, scopeK, pbin, pun, ppick, plen, piaddr, pindex, pfield, pslice, pbound, pconv, pelems, pextract, pmm, PV.mem?, PV.one, PV.cells, pageq, peqs, peq1, pmakes, pstore, pbytes, pmark, pusd, pust, psrc, pkey, pnile, pcap, pgrow, List.set, Value.cells, ↓popG_eq, ↓pop.eq_1, ↓List.getElem?_map, ↓List.getElem?_cons_zero, ↓List.getElem?_cons_succ, Value.oneCell', Nat.reduceAdd, Nat.reduceMul, Nat.reduceSub, Nat.reduceLeDiff, Nat.reduceEqDiff, ↓reduceIte, ne_eq, reduceCtorEq, forall_const, exists_and_left, exists_eq_left', eq_self, Nat.reduceLT, Int.reduceLT, Int.reduceLE, Int.reduceToNat, Int.reduceAdd, Int.reduceSub, Int.reduceNeg, hnm, Tryd.tf3, Tryd.tf4, Tryd.teq45, Tryd.teq94, Tryd.teq104, Tryd.teq113, Tryd.teq114])
    repeat' (first
    | (with_reducible apply W_seq_k; intro nx hnx)
    | (with_reducible first | apply W_block | apply W_scope)
    | (with_reducible refine W_prune 19 ?_; simp only [prb, Nat.reducePow, Nat.reduceDiv, Nat.reduceMod, Nat.reduceBEq]; with_reducible apply W_region_l)
    | ((first | (with_reducible apply WL_op; intro nx hnx) | with_reducible refine Ev_out ?_); try (simp (maxSteps := 2000000) (disch := omega) only [evb, evd, pbuiltin, constPV, pnck, seqK, blockK, scopeK, pbin, pun, ppick, plen, piaddr, pindex, pfield, pslice, pbound, pconv, pelems, pextract, pmm, PV.mem?, PV.one, PV.cells, pageq, peqs, peq1, pmakes, pstore, pbytes, pmark, pusd, pust, psrc, pkey, pnile, pcap, pgrow, List.set, Value.cells, ↓popG_eq, ↓pop.eq_1, ↓List.getElem?_map, ↓List.getElem?_cons_zero, ↓List.getElem?_cons_succ, Value.oneCell', Nat.reduceAdd, Nat.reduceMul, Nat.reduceSub, Nat.reduceLeDiff, Nat.reduceEqDiff, ↓reduceIte, ne_eq, reduceCtorEq, forall_const, exists_and_left, exists_eq_left', eq_self, Nat.reduceLT, Int.reduceLT, Int.reduceLE, Int.reduceToNat, Int.reduceAdd, Int.reduceSub, Int.reduceNeg, hnm, Tryd.tf3, Tryd.tf4, Tryd.teq45, Tryd.teq94, Tryd.teq104, Tryd.teq113, Tryd.teq114, t1]); repeat (refine And.intro (by omega) ?_))
    | ((with_reducible first | apply WL_nil | apply W_label | apply W_skip | apply W_exit | apply W_ret); try simp only [seqK, blockK, scopeK, ↓reduceIte, Nat.reduceEqDiff])
    | (with_reducible apply W_cond_k; intro _ _ ea eb; (simp only [condK, cob, opnd, constPV, Nat.reduceEqDiff, Nat.reduceLT, ↓reduceIte, hcb, reduceCtorEq, forall_const, ne_eq]); subst ea eb; first | (refine ⟨fun hc => ?_, fun hc => ?_⟩ <;> first | (exfalso; omega) | (exfalso; exact hc trivial) | skip) | skip)
    | (with_reducible apply hnx; clear hnx nx)
    | (with_reducible refine And.intro (by omega) ?_)
    | (with_reducible refine And.intro ?_ ?_)
    | (clear hnx nx; with_reducible apply hnx; clear hnx nx)
    | (clear hnx nx; clear hnx nx; with_reducible apply hnx; clear hnx nx)
    | (clear hnx nx; clear hnx nx; clear hnx nx; with_reducible apply hnx; clear hnx nx))
    all_goals first
      | (exfalso
         omega)
      | (refine hfin _ _ (Fin_ret1 rfl (Sub_nil _) ?_); simp only [List.getD_cons_zero, List.getD_cons_succ, fr_getD_cons, fr_getD_nil, Nat.reduceEqDiff, Nat.reduceLT, ↓reduceIte]; first | trivial | exact ⟨rfl, by trivial⟩ | (simp; done) | (simp; omega))
  · rw [if_neg h0] at t2 hb ⊢
    generalize n % most = r at *
    (refine PCalls_f Tryd.func32 rfl Tryd.ntmps32 Tryd.results32 (by simp) fun fin hfin => ?_; have hnm : True := trivial; simp (maxSteps := 2000000) (disch := omega) only [evb, evd, pbuiltin, constPV, pnck, seqK, blockK, scopeK, pbin, pun, ppick, plen, piaddr, pindex, pfield, pslice, pbound, pconv, pelems, pextract, pmm, PV.mem?, PV.one, PV.cells, pageq, peqs, peq1, pmakes, pstore, pbytes, pmark, pusd, pust, psrc, pkey, pnile, pcap, pgrow, List.set, Value.cells, ↓popG_eq, ↓pop.eq_1, ↓List.getElem?_map, ↓List.getElem?_cons_zero, ↓List.getElem?_cons_succ, Value.oneCell', Nat.reduceAdd, Nat.reduceMul, Nat.reduceSub, Nat.reduceLeDiff, Nat.reduceEqDiff, ↓reduceIte, ne_eq, reduceCtorEq, forall_const, exists_and_left, exists_eq_left', eq_self, Nat.reduceLT, Int.reduceLT, Int.reduceLE, Int.reduceToNat, Int.reduceAdd, Int.reduceSub, Int.reduceNeg, hnm, Tryd.tf3, Tryd.tf4, Tryd.teq45, Tryd.teq94, Tryd.teq104, Tryd.teq113, Tryd.teq114])
    repeat' (first
    | (with_reducible apply W_seq_k; intro nx hnx)
    | (with_reducible first | apply W_block | apply W_scope)
    | (with_reducible refine W_prune 19 ?_; simp only [prb, Nat.reducePow, Nat.reduceDiv, Nat.reduceMod, Nat.reduceBEq]; with_reducible apply W_region_l)
    | ((first | (with_reducible apply WL_op; intro nx hnx) | with_reducible refine Ev_out ?_); try (simp (maxSteps := 2000000) (disch := omega) only [evb, evd, pbuiltin, constPV, pnck, seqK, blockK, scopeK, pbin, pun, ppick, plen, piaddr, pindex, pfield, pslice, pbound, pconv, pelems, pextract, pmm, PV.mem?, PV.one, PV.cells, pageq, peqs, peq1, pmakes, pstore, pbytes, pmark, pusd, pust, psrc, pkey, pnile, pcap, pgrow, List.set, Value.cells, ↓popG_eq, ↓pop.eq_1, ↓List.getElem?_map, ↓List.getElem?_cons_zero, ↓List.getElem?_cons_succ, Value.oneCell', Nat.reduceAdd, Nat.reduceMul, Nat.reduceSub, Nat.reduceLeDiff, Nat.reduceEqDiff, ↓reduceIte, ne_eq, reduceCtorEq, forall_const, exists_and_left, exists_eq_left', eq_self, Nat.reduceLT, Int.reduceLT, Int.reduceLE, Int.reduceToNat, Int.reduceAdd, Int.reduceSub, Int.reduceNeg, hnm, Tryd.tf3, Tryd.tf4, Tryd.teq45, Tryd.teq94, Tryd.teq104, Tryd.teq113, Tryd.teq114, t2]); repeat (refine And.intro (by omega) ?_))
    | ((with_reducible first | apply WL_nil | apply W_label | apply W_skip | apply W_exit | apply W_ret); try simp only [seqK, blockK, scopeK, ↓reduceIte, Nat.reduceEqDiff])
    | (with_reducible apply W_cond_k; intro _ _ ea eb; (simp only [condK, cob, opnd, constPV, Nat.reduceEqDiff, Nat.reduceLT, ↓reduceIte, hcb, reduceCtorEq, forall_const, ne_eq]); subst ea eb; first | (refine ⟨fun hc => ?_, fun hc => ?_⟩ <;> first | (exfalso; omega) | (exfalso; exact hc trivial) | skip) | skip)
    | (with_reducible apply hnx; clear hnx nx)
    | (with_reducible refine And.intro (by omega) ?_)
    | (with_reducible refine And.intro ?_ ?_)
    | (clear hnx nx; with_reducible apply hnx; clear hnx nx)
    | (clear hnx nx; clear hnx nx; with_reducible apply hnx; clear hnx nx)
    | (clear hnx nx; clear hnx nx; clear hnx nx; with_reducible apply hnx; clear hnx nx))
    all_goals first
      | (exfalso
         omega)
      | (refine hfin _ _ (Fin_ret1 rfl (Sub_nil _) ?_); simp only [List.getD_cons_zero, List.getD_cons_succ, fr_getD_cons, fr_getD_nil, Nat.reduceEqDiff, Nat.reduceLT, ↓reduceIte]; first | trivial | exact ⟨rfl, by trivial⟩ | (simp; done) | (simp; omega))
/-- a number of a list, from 0 to below another -/
def atF (l : List Int) (i : Nat) (most : Int) : Int := if i < l.length then arF (l.getD i 0) most else 0
theorem atF_bound (l : List Int) (i : Nat) {most : Int} (h : 0 < most) : 0 ≤ atF l i most ∧ atF l i most < most := by
  unfold atF
  split
  · exact arF_bound _ h
  · omega
/-- Numbers of a machine. -/
@[reducible] def okI (l : List Int) : Prop := (l.length : Int) ≤ 9223372036854775807 ∧ ∀ x ∈ l, i64 x
theorem okI_get {l : List Int} (hl : okI l) (i : Nat) : i64 (l.getD i 0) := by
  by_cases hi : i < l.length
  · have : l.getD i 0 = l[i] := by simp [hi]
    rw [this]
    exact hl.2 _ (List.getElem_mem hi)
  · have : l.getD i 0 = 0 := by simp [Nat.le_of_not_lt hi]
    rw [this]
    exact ⟨by omega, by omega⟩
theorem at_c (G : Globs) (l : List Int) (hl : okI l) (i : Nat) (most : Int) (h : 0 < most) (hm : most ≤ 9223372036854775807) :
    PCalls Tryd.prog G 30 [wP l, pn i, pint .i64 most] [] (fun res H => res = pint .i64 (atF l i most) ∧ H = []) := by
  by_cases hi : i < l.length
  · have c1 := around_c G (l.getD i 0) most h (okI_get hl i) hm
    have hg : l[i] = l.getD i 0 := by simp [hi]
    have hl1 := hl.1
    rw [atF, if_pos hi]
    generalize l.getD i 0 = x at *
    (refine PCalls_f Tryd.func30 rfl Tryd.ntmps30 Tryd.results30 (by simp) fun fin hfin => ?_; have hnm : True := trivial; simp (maxSteps := 2000000) (disch := omega) only [evb, evd, pbuiltin, constPV, pnck, seqK, blockK, scopeK, pbin, pun, ppick, plen, piaddr, pindex, pfield, pslice, pbound, pconv, pelems, pextract, pmm, PV.mem?, PV.one, PV.cells, pageq, peqs, peq1, pmakes, pstore, pbytes, pmark, pusd, pust, psrc, pkey, pnile, pcap, pgrow, List.set, Value.cells, ↓popG_eq, ↓pop.eq_1, ↓List.getElem?_map, ↓List.getElem?_cons_zero, ↓List.getElem?_cons_succ, Value.oneCell', Nat.reduceAdd, Nat.reduceMul, Nat.reduceSub, Nat.reduceLeDiff, Nat.reduceEqDiff, ↓reduceIte, ne_eq, reduceCtorEq, forall_const, exists_and_left, exists_eq_left', eq_self, Nat.reduceLT, Int.reduceLT, Int.reduceLE, Int.reduceToNat, Int.reduceAdd, Int.reduceSub, Int.reduceNeg, hnm, Tryd.tf0, Tryd.tf3, Tryd.tf4, Tryd.tf22, Tryd.teq45, Tryd.teq94, Tryd.teq104, Tryd.teq113, Tryd.teq114, Tryd.call32])
    repeat' (first
    | (with_reducible apply W_seq_k; intro nx hnx)
    | (with_reducible first | apply W_block | apply W_scope)
    | (with_reducible refine W_prune 71 ?_; simp only [prb, Nat.reducePow, Nat.reduceDiv, Nat.reduceMod, Nat.reduceBEq]; with_reducible apply W_region_l)
    | ((first | (with_reducible apply WL_op; intro nx hnx) | with_reducible refine Ev_out ?_); try (simp (maxSteps := 2000000) (disch := omega) only [evb, evd, pbuiltin, constPV, pnck, seqK, blockK, scopeK, pbin, pun, ppick, plen, piaddr, pindex, pfield, pslice, pbound, pconv, pelems, pextract, pmm, PV.mem?, PV.one, PV.cells, pageq, peqs, peq1, pmakes, pstore, pbytes, pmark, pusd, pust, psrc, pkey, pnile, pcap, pgrow, List.set, Value.cells, ↓popG_eq, ↓pop.eq_1, ↓List.getElem?_map, ↓List.getElem?_cons_zero, ↓List.getElem?_cons_succ, Value.oneCell', Nat.reduceAdd, Nat.reduceMul, Nat.reduceSub, Nat.reduceLeDiff, Nat.reduceEqDiff, ↓reduceIte, ne_eq, reduceCtorEq, forall_const, exists_and_left, exists_eq_left', eq_self, Nat.reduceLT, Int.reduceLT, Int.reduceLE, Int.reduceToNat, Int.reduceAdd, Int.reduceSub, Int.reduceNeg, hnm, Tryd.tf0, Tryd.tf3, Tryd.tf4, Tryd.tf22, Tryd.teq45, Tryd.teq94, Tryd.teq104, Tryd.teq113, Tryd.teq114, Tryd.call32, hg]); repeat (refine And.intro (by omega) ?_))
    | ((with_reducible first | apply WL_nil | apply W_label | apply W_skip | apply W_exit | apply W_ret); try simp only [seqK, blockK, scopeK, ↓reduceIte, Nat.reduceEqDiff])
    | (with_reducible apply pguard_intro <;> (intro hc; (try simp only [hcb, reduceCtorEq, forall_const, ne_eq] at hc); first | (exfalso; omega) | (exfalso; exact hc trivial) | refine Ev_in ?_))
    | (with_reducible apply W_cond_k; intro _ _ ea eb; (simp only [condK, cob, opnd, constPV, Nat.reduceEqDiff, Nat.reduceLT, ↓reduceIte, hcb, reduceCtorEq, forall_const, ne_eq]); subst ea eb; first | (refine ⟨fun hc => ?_, fun hc => ?_⟩ <;> first | (exfalso; omega) | (exfalso; exact hc trivial) | skip) | skip)
    | (with_reducible apply hnx; clear hnx nx)
    | (with_reducible refine And.intro (by omega) ?_)
    | (with_reducible refine And.intro ?_ ?_)
    | (with_reducible refine pcall_k (c1) ?_; rintro _ _ ⟨rfl, rfl⟩ -; refine Ev_in ?_)
    | (clear hnx nx; with_reducible apply hnx; clear hnx nx)
    | (clear hnx nx; clear hnx nx; with_reducible apply hnx; clear hnx nx)
    | (clear hnx nx; clear hnx nx; clear hnx nx; with_reducible apply hnx; clear hnx nx))
    all_goals first
      | (exfalso
         omega)
      | (refine hfin _ _ (Fin_ret1 rfl (Sub_nil _) ?_); simp only [List.getD_cons_zero, List.getD_cons_succ, fr_getD_cons, fr_getD_nil, Nat.reduceEqDiff, Nat.reduceLT, ↓reduceIte]; first | trivial | exact ⟨rfl, by trivial⟩ | (simp; done) | (simp; omega))
  · rw [atF, if_neg hi]
    (refine PCalls_f Tryd.func30 rfl Tryd.ntmps30 Tryd.results30 (by simp) fun fin hfin => ?_; have hnm : True := trivial; simp (maxSteps := 2000000) (disch := omega) only [evb, evd, pbuiltin, constPV, pnck, seqK, blockK, scopeK, pbin, pun, ppick, plen, piaddr, pindex, pfield, pslice, pbound, pconv, pelems, pextract, pmm, PV.mem?, PV.one, PV.cells, pageq, peqs, peq1, pmakes, pstore, pbytes, pmark, pusd, pust, psrc, pkey, pnile, pcap, pgrow, List.set, Value.cells, ↓popG_eq, ↓pop.eq_1, ↓List.getElem?_map, ↓List.getElem?_cons_zero, ↓List.getElem?_cons_succ, Value.oneCell', Nat.reduceAdd, Nat.reduceMul, Nat.reduceSub, Nat.reduceLeDiff, Nat.reduceEqDiff, ↓reduceIte, ne_eq, reduceCtorEq, forall_const, exists_and_left, exists_eq_left', eq_self, Nat.reduceLT, Int.reduceLT, Int.reduceLE, Int.reduceToNat, Int.reduceAdd, Int.reduceSub, Int.reduceNeg, hnm, Tryd.tf0, Tryd.tf3, Tryd.tf4, Tryd.tf22, Tryd.teq45, Tryd.teq94, Tryd.teq104, Tryd.teq113, Tryd.teq114, Tryd.call32])
    repeat' (first
    | (with_reducible apply W_seq_k; intro nx hnx)
    | (with_reducible first | apply W_block | apply W_scope)
    | (with_reducible refine W_prune 71 ?_; simp only [prb, Nat.reducePow, Nat.reduceDiv, Nat.reduceMod, Nat.reduceBEq]; with_reducible apply W_region_l)
    | ((first | (with_reducible apply WL_op; intro nx hnx) | with_reducible refine Ev_out ?_); try (simp (maxSteps := 2000000) (disch := omega) only [evb, evd, pbuiltin, constPV, pnck, seqK, blockK, scopeK, pbin, pun, ppick, plen, piaddr, pindex, pfield, pslice, pbound, pconv, pelems, pextract, pmm, PV.mem?, PV.one, PV.cells, pageq, peqs, peq1, pmakes, pstore, pbytes, pmark, pusd, pust, psrc, pkey, pnile, pcap, pgrow, List.set, Value.cells, ↓popG_eq, ↓pop.eq_1, ↓List.getElem?_map, ↓List.getElem?_cons_zero, ↓List.getElem?_cons_succ, Value.oneCell', Nat.reduceAdd, Nat.reduceMul, Nat.reduceSub, Nat.reduceLeDiff, Nat.reduceEqDiff, ↓reduceIte, ne_eq, reduceCtorEq, forall_const, exists_and_left, exists_eq_left', eq_self, Nat.reduceLT, Int.reduceLT, Int.reduceLE, Int.reduceToNat, Int.reduceAdd, Int.reduceSub, Int.reduceNeg, hnm, Tryd.tf0, Tryd.tf3, Tryd.tf4, Tryd.tf22, Tryd.teq45, Tryd.teq94, Tryd.teq104, Tryd.teq113, Tryd.teq114, Tryd.call32]); repeat (refine And.intro (by omega) ?_))
    | ((with_reducible first | apply WL_nil | apply W_label | apply W_skip | apply W_exit | apply W_ret); try simp only [seqK, blockK, scopeK, ↓reduceIte, Nat.reduceEqDiff])
    | (with_reducible apply pguard_intro <;> (intro hc; (try simp only [hcb, reduceCtorEq, forall_const, ne_eq] at hc); first | (exfalso; omega) | (exfalso; exact hc trivial) | refine Ev_in ?_))
    | (with_reducible apply W_cond_k; intro _ _ ea eb; (simp only [condK, cob, opnd, constPV, Nat.reduceEqDiff, Nat.reduceLT, ↓reduceIte, hcb, reduceCtorEq, forall_const, ne_eq]); subst ea eb; first | (refine ⟨fun hc => ?_, fun hc => ?_⟩ <;> first | (exfalso; omega) | (exfalso; exact hc trivial) | skip) | skip)
    | (with_reducible apply hnx; clear hnx nx)
    | (with_reducible refine And.intro (by omega) ?_)
    | (with_reducible refine And.intro ?_ ?_)
    | (clear hnx nx; with_reducible apply hnx; clear hnx nx)
    | (clear hnx nx; clear hnx nx; with_reducible apply hnx; clear hnx nx)
    | (clear hnx nx; clear hnx nx; clear hnx nx; with_reducible apply hnx; clear hnx nx))
    all_goals first
      | (exfalso
         omega)
      | (refine hfin _ _ (Fin_ret1 rfl (Sub_nil _) ?_); simp only [List.getD_cons_zero, List.getD_cons_succ, fr_getD_cons, fr_getD_nil, Nat.reduceEqDiff, Nat.reduceLT, ↓reduceIte]; first | trivial | exact ⟨rfl, by trivial⟩ | (simp; done) | (simp; omega))
/-- The texts of letters. -/
def poolL : List (List UInt8) := [[97], [98], [99], [101], [105], [110], [115], [116], [99, 104], [195, 169], [65], [115, 99, 104], [104], [108], [195, 182], [117]]
theorem pool_c (G : Globs) (n : Nat) (hn : n < 16) : PCalls Tryd.prog G 31 [pn n] [] (fun res H => res = pstr (poolL.getD n []) ∧ H = []) := by
  have hget : ([PV.val (.string ⟨#[97]⟩), PV.val (.string ⟨#[98]⟩), PV.val (.string ⟨#[99]⟩), PV.val (.string ⟨#[101]⟩), PV.val (.string ⟨#[105]⟩), PV.val (.string ⟨#[110]⟩), PV.val (.string ⟨#[115]⟩), PV.val (.string ⟨#[116]⟩), PV.val (.string ⟨#[99, 104]⟩), PV.val (.string ⟨#[195, 169]⟩), PV.val (.string ⟨#[65]⟩), PV.val (.string ⟨#[115, 99, 104]⟩), PV.val (.string ⟨#[104]⟩), PV.val (.string ⟨#[108]⟩), PV.val (.string ⟨#[195, 182]⟩), PV.val (.string ⟨#[117]⟩)] : List PV).getD n PV.junk = pstr (poolL.getD n []) := by
    show (poolL.map pstr).getD n PV.junk = pstr (poolL.getD n [])
    have hl : n < poolL.length := hn
    rw [List.getD_eq_getElem?_getD, List.getD_eq_getElem?_getD, List.getElem?_map, List.getElem?_eq_getElem hl]
    rfl
  generalize poolL.getD n [] = q at *
  (refine PCalls_f Tryd.func31 rfl Tryd.ntmps31 Tryd.results31 (by simp) fun fin hfin => ?_; have hnm : True := trivial; simp (maxSteps := 2000000) (disch := omega) only [evb, evd, pbuiltin, constPV, pnck, seqK, blockK, scopeK, pbin, pun, ppick, plen, piaddr, pindex, pfield, pslice, pbound, pconv, pelems, pextract, pmm, PV.mem?, PV.one, PV.cells, pageq, peqs, peq1, pmakes, pstore, pbytes, pmark, pusd, pust, psrc, pkey, pnile, pcap, pgrow, List.set, Value.cells, ↓popG_eq, ↓pop.eq_1, ↓List.getElem?_map, ↓List.getElem?_cons_zero, ↓List.getElem?_cons_succ, Value.oneCell', Nat.reduceAdd, Nat.reduceMul, Nat.reduceSub, Nat.reduceLeDiff, Nat.reduceEqDiff, ↓reduceIte, ne_eq, reduceCtorEq, forall_const, exists_and_left, exists_eq_left', eq_self, Nat.reduceLT, Int.reduceLT, Int.reduceLE, Int.reduceToNat, Int.reduceAdd, Int.reduceSub, Int.reduceNeg, hnm, Tryd.tf0, Tryd.tf3, Tryd.tf9, Tryd.tf16, Tryd.tf26, Tryd.teq45, Tryd.teq94, Tryd.teq104, Tryd.teq113, Tryd.teq114, Tryd.tf119])
  repeat' (first
    | (with_reducible apply W_seq_k; intro nx hnx)
    | (with_reducible first | apply W_block | apply W_scope)
    | (with_reducible refine W_prune 5 ?_; simp only [prb, Nat.reducePow, Nat.reduceDiv, Nat.reduceMod, Nat.reduceBEq]; with_reducible apply W_region_l)
    | (with_reducible refine WL_born (by simp) rfl (by simp) ?_; simp only [elemsOf, nl, List.map_cons, List.map_nil, Nat.reduceEqDiff, ↓reduceIte, List.take_succ_cons, List.take_zero, List.range_succ, List.range_zero, List.nil_append, List.cons_append, List.map_append, List.drop_succ_cons, List.drop_zero, Nat.reduceMul, Nat.zero_mul, Nat.one_mul, Nat.reduceAdd])
    | ((first | (with_reducible apply WL_op; intro nx hnx) | with_reducible refine Ev_out ?_ | (with_reducible refine pfresh_k hnm fun nm hnm => ?_; (try simp only [fmb] at hnm)) | (with_reducible refine pborn_im ?_; simp only [elemsOf, nl, List.map_cons, List.map_nil, Nat.reduceEqDiff, ↓reduceIte, List.take_succ_cons, List.take_zero, List.range_succ, List.range_zero, List.nil_append, List.cons_append, List.map_append, List.drop_succ_cons, List.drop_zero, Nat.reduceMul, Nat.zero_mul, Nat.one_mul, Nat.reduceAdd])); try (simp (maxSteps := 2000000) (disch := omega) only [evb, evd, pbuiltin, constPV, pnck, seqK, blockK, scopeK, pbin, pun, ppick, plen, piaddr, pindex, pfield, pslice, pbound, pconv, pelems, pextract, pmm, PV.mem?, PV.one, PV.cells, pageq, peqs, peq1, pmakes, pstore, pbytes, pmark, pusd, pust, psrc, pkey, pnile, pcap, pgrow, List.set, Value.cells, ↓popG_eq, ↓pop.eq_1, ↓List.getElem?_map, ↓List.getElem?_cons_zero, ↓List.getElem?_cons_succ, Value.oneCell', Nat.reduceAdd, Nat.reduceMul, Nat.reduceSub, Nat.reduceLeDiff, Nat.reduceEqDiff, ↓reduceIte, ne_eq, reduceCtorEq, forall_const, exists_and_left, exists_eq_left', eq_self, Nat.reduceLT, Int.reduceLT, Int.reduceLE, Int.reduceToNat, Int.reduceAdd, Int.reduceSub, Int.reduceNeg, hnm, Tryd.tf0, Tryd.tf3, Tryd.tf9, Tryd.tf16, Tryd.tf26, Tryd.teq45, Tryd.teq94, Tryd.teq104, Tryd.teq113, Tryd.teq114, Tryd.tf119, hget]); repeat (refine And.intro (by omega) ?_))
    | ((with_reducible first | apply WL_nil | apply W_label | apply W_skip | apply W_exit | apply W_ret); try simp only [seqK, blockK, scopeK, ↓reduceIte, Nat.reduceEqDiff])
    | (with_reducible apply W_cond_k; intro _ _ ea eb; (simp only [condK, cob, opnd, constPV, Nat.reduceEqDiff, Nat.reduceLT, ↓reduceIte, hcb, reduceCtorEq, forall_const, ne_eq]); subst ea eb; first | (refine ⟨fun hc => ?_, fun hc => ?_⟩ <;> first | (exfalso; omega) | (exfalso; exact hc trivial) | skip) | skip)
    | (with_reducible apply hnx; clear hnx nx)
    | (with_reducible refine And.intro (by omega) ?_)
    | (with_reducible refine And.intro ?_ ?_)
    | (clear hnx nx; with_reducible apply hnx; clear hnx nx)
    | (clear hnx nx; clear hnx nx; with_reducible apply hnx; clear hnx nx)
    | (clear hnx nx; clear hnx nx; clear hnx nx; with_reducible apply hnx; clear hnx nx))
  all_goals first | exact absurd trivial hc | contradiction | exact fun h => False.elim h | (exfalso; omega) | (exfalso; have hc := of_decide_eq_false hc; omega) | (exfalso; simp only [Bool.not_false, Bool.not_true, decide_eq_true_eq, decide_eq_false_iff_not] at *; omega) | skip
  all_goals (refine hfin _ _ (Fin_ret1 rfl (Sub_nil _) ?_); simp only [List.getD_cons_zero, List.getD_cons_succ, fr_getD_cons, fr_getD_nil, Nat.reduceEqDiff, Nat.reduceLT, ↓reduceIte]; first | trivial | exact ⟨rfl, by trivial⟩ | (simp; done) | (simp; omega))
theorem pool_len (n : Nat) : (poolL.getD n []).length ≤ 3 := by
  have h : ∀ x ∈ poolL, x.length ≤ 3 := by decide
  by_cases hl : n < poolL.length
  · rw [List.getD_eq_getElem?_getD, List.getElem?_eq_getElem hl]
    exact h _ (List.getElem_mem hl)
  · rw [List.getD_eq_getElem?_getD, List.getElem?_eq_none (by omega)]
    simp
end Go.PM

namespace Go.PM
open Go.Proofs
attribute [local irreducible] W PCalls pcall pcallI WL
set_option maxRecDepth 100000
set_option maxHeartbeats 8000000
/-- The letter with the number i of the alphabet that l makes, behind the letters a. -/
def mkL (l : List Int) (i : Nat) (a : List Ltr) : Ltr :=
  if 0 < i ∧ atF l (10 + i) 3 = 1 then ⟨poolL.getD (((atF l 1 16).toNat + i) % 16) [], (a.getD (atF l (20 + i) i).toNat default).base, atF l (30 + i) 4, atF l (40 + i) 2, 1 + atF l (2 + i) 9⟩
  else ⟨poolL.getD (((atF l 1 16).toNat + i) % 16) [], i, 0, 0, 1 + atF l (2 + i) 9⟩
def mkA (l : List Int) : Nat → List Ltr
  | 0 => []
  | i + 1 => mkA l i ++ [mkL l i (mkA l i)]
def lettersF (l : List Int) : List Ltr := mkA l (3 + (atF l 0 6).toNat)
theorem mkA_len (l : List Int) : ∀ n, (mkA l n).length = n
  | 0 => rfl
  | n + 1 => by rw [mkA, List.length_append, mkA_len l n]; rfl
theorem letters_r (G : Globs) (l : List Int) (hl : okI l) : PCalls Tryd.prog G 9 [wP l] [] (fun res H => ∃ n : Int, res = .row n 5 (lettersF l).length ∧ H = [(n, ⟨45, true, 5, flatL (lettersF l)⟩)]) := by
  have b0 := atF_bound l 0 (most := 6) (by omega)
  have b1 := atF_bound l 1 (most := 16) (by omega)
  have c0 := at_c G l hl 0 6 (by omega) (by omega)
  have c1 := at_c G l hl 1 16 (by omega) (by omega)
  have c0 : PCalls Tryd.prog G 30 [wP l, .val (.int .i64 0), .val (.int .i64 6)] [] _ := c0
  have c1 : PCalls Tryd.prog G 30 [wP l, .val (.int .i64 1), .val (.int .i64 16)] [] _ := c1
  obtain ⟨n0, hn0⟩ : ∃ n : Nat, n = (atF l 0 6).toNat := ⟨_, rfl⟩
  obtain ⟨s0, hs0⟩ : ∃ n : Nat, n = (atF l 1 16).toNat := ⟨_, rfl⟩
  have e0 : atF l 0 6 = (n0 : Int) := by omega
  have e1 : atF l 1 16 = (s0 : Int) := by omega
  rw [e0] at c0
  rw [e1] at c1
  unfold lettersF
  rw [mkA_len, ← hn0]
  have hdef : ∀ i a, mkL l i a = if 0 < i ∧ atF l (10 + i) 3 = 1 then ⟨poolL.getD ((s0 + i) % 16) [], (a.getD (atF l (20 + i) i).toNat default).base, atF l (30 + i) 4, atF l (40 + i) 2, 1 + atF l (2 + i) 9⟩
      else ⟨poolL.getD ((s0 + i) % 16) [], i, 0, 0, 1 + atF l (2 + i) 9⟩ := fun i a => by rw [mkL, ← hs0]
  (refine PCalls_f Tryd.func9 rfl Tryd.ntmps9 Tryd.results9 (by simp) fun fin hfin => ?_; have hnm : True := trivial; simp (maxSteps := 2000000) (disch := omega) only [evb, evd, pbuiltin, constPV, pnck, seqK, blockK, scopeK, pbin, pun, ppick, plen, piaddr, pindex, pfield, pslice, pbound, pconv, pelems, pextract, pmm, PV.mem?, PV.one, PV.cells, pageq, peqs, peq1, pmakes, pstore, pbytes, pmark, pusd, pust, psrc, pkey, pnile, pcap, pgrow, List.set, Value.cells, ↓popG_eq, ↓pop.eq_1, ↓List.getElem?_map, ↓List.getElem?_cons_zero, ↓List.getElem?_cons_succ, Value.oneCell', Nat.reduceAdd, Nat.reduceMul, Nat.reduceSub, Nat.reduceLeDiff, Nat.reduceEqDiff, ↓reduceIte, ne_eq, reduceCtorEq, forall_const, exists_and_left, exists_eq_left', eq_self, Nat.reduceLT, Int.reduceLT, Int.reduceLE, Int.reduceToNat, Int.reduceAdd, Int.reduceSub, Int.reduceNeg, hnm, Tryd.tf0, Tryd.tf1, Tryd.tf2, Tryd.tf3, Tryd.tf4, Tryd.tf9, Tryd.tf22, Tryd.tf23, Tryd.tf45, Tryd.teq45, Tryd.teq94, Tryd.teq104, Tryd.teq113, Tryd.teq114, Tryd.call30, Tryd.call31])
  repeat' (first
    | (with_reducible apply W_seq_k; intro nx hnx)
    | (with_reducible first | apply W_block | apply W_scope)
    | (with_reducible refine W_prune 253 ?_; simp only [prb, Nat.reducePow, Nat.reduceDiv, Nat.reduceMod, Nat.reduceBEq]; with_reducible apply W_region_l)
    | ((first | (with_reducible apply WL_op; intro nx hnx) | with_reducible refine Ev_out ?_ | (with_reducible refine pfresh_k hnm fun nm hnm => ?_; (try simp only [fmb] at hnm)) | (with_reducible refine pborn_mu hnm fun nm hnm => ?_; (try simp only [fmb] at hnm)) | (with_reducible refine pmaybe_k ?_; intro bn hbn)); try (simp (maxSteps := 2000000) (disch := omega) only [evb, evd, pbuiltin, constPV, pnck, seqK, blockK, scopeK, pbin, pun, ppick, plen, piaddr, pindex, pfield, pslice, pbound, pconv, pelems, pextract, pmm, PV.mem?, PV.one, PV.cells, pageq, peqs, peq1, pmakes, pstore, pbytes, pmark, pusd, pust, psrc, pkey, pnile, pcap, pgrow, List.set, Value.cells, ↓popG_eq, ↓pop.eq_1, ↓List.getElem?_map, ↓List.getElem?_cons_zero, ↓List.getElem?_cons_succ, Value.oneCell', Nat.reduceAdd, Nat.reduceMul, Nat.reduceSub, Nat.reduceLeDiff, Nat.reduceEqDiff, ↓reduceIte, ne_eq, reduceCtorEq, forall_const, exists_and_left, exists_eq_left', eq_self, Nat.reduceLT, Int.reduceLT, Int.reduceLE, Int.reduceToNat, Int.reduceAdd, Int.reduceSub, Int.reduceNeg, hnm, Tryd.tf0, Tryd.tf1, Tryd.tf2, Tryd.tf3, Tryd.tf4, Tryd.tf9, Tryd.tf22, Tryd.tf23, Tryd.tf45, Tryd.teq45, Tryd.teq94, Tryd.teq104, Tryd.teq113, Tryd.teq114, Tryd.call30, Tryd.call31]); repeat (refine And.intro (by omega) ?_))
    | ((with_reducible first | apply WL_nil | apply W_label | apply W_skip | apply W_exit | apply W_ret); try simp only [seqK, blockK, scopeK, ↓reduceIte, Nat.reduceEqDiff])
    | (with_reducible apply pguard_intro <;> (intro hc; (try simp only [hcb, reduceCtorEq, forall_const, ne_eq] at hc); first | (exfalso; omega) | (exfalso; exact hc trivial) | refine Ev_in ?_))
    | (with_reducible apply W_cond_k; intro _ _ ea eb; (simp only [condK, cob, opnd, constPV, Nat.reduceEqDiff, Nat.reduceLT, ↓reduceIte, hcb, reduceCtorEq, forall_const, ne_eq]); subst ea eb; first | (refine ⟨fun hc => ?_, fun hc => ?_⟩ <;> first | (exfalso; omega) | (exfalso; exact hc trivial) | skip) | skip)
    | (with_reducible apply hnx; clear hnx nx)
    | (with_reducible refine And.intro (by omega) ?_)
    | (with_reducible refine And.intro ?_ ?_)
    | (with_reducible refine pcall_k (c0) ?_; rintro _ _ ⟨rfl, rfl⟩ -; refine Ev_in ?_)
    | (with_reducible refine pcall_k (c1) ?_; rintro _ _ ⟨rfl, rfl⟩ -; refine Ev_in ?_)
    | (clear hnx nx; with_reducible apply hnx; clear hnx nx)
    | (clear hnx nx; clear hnx nx; with_reducible apply hnx; clear hnx nx)
    | (clear hnx nx; clear hnx nx; clear hnx nx; with_reducible apply hnx; clear hnx nx))
  all_goals first | exact absurd trivial hc | contradiction | exact fun h => False.elim h | (exfalso; omega) | (exfalso; have hc := of_decide_eq_false hc; omega) | (exfalso; simp only [Bool.not_false, Bool.not_true, decide_eq_true_eq, decide_eq_false_iff_not] at *; omega) | skip
  refine W_adopt_f 5 45 5 (by simp only [fr_getD_cons, Nat.reduceEqDiff, Nat.reduceLT, ↓reduceIte]) fun A0 hA => ?_
  refine W_loop_k (fun z τ => ∃ (i : Nat) (A : Int), i ≤ 3 + n0 ∧ z = 3 + n0 - i ∧ τ = ⟨fr 64 [(6, pn i), (5, .row A 5 i), (4, pn s0), (3, pn (3 + n0)), (0, wP l)], [(A, ⟨45, true, 5, flatL (mkA l i)⟩)]⟩) (3 + n0)
    ⟨fr 64 [(6, pn 0), (5, .row A0 5 0), (4, pn s0), (3, pn (3 + n0)), (0, wP l)], [(A0, ⟨45, true, 5, flatL (mkA l 0)⟩)]⟩ (by
    refine Wk_fr (by simp only [wkb, Nat.reduceEqDiff, Nat.reduceLT, ↓reduceIte, pn, Int.natCast_add]) ?_
    all_goals exact Sub_refl (by simp [names])) ⟨0, A0, by omega, by omega, rfl⟩ ?_
  clear hA hnm
  have hnm : True := trivial
  rintro z τ ⟨i, A, hi, rfl, rfl⟩ lp hlp
  have hfl : (flatL (mkA l i)).length = i * 5 := by rw [flatL_len, mkA_len]
  by_cases hil : i < 3 + n0
  · have cp := pool_c G ((s0 + i) % 16) (by omega)
    have hpl := pool_len ((s0 + i) % 16)
    have m16 : ((s0 : Int) + i).tmod 16 = (((s0 + i) % 16 : Nat) : Int) := by
      rw [Int.tmod_eq_emod_of_nonneg (by omega)]
      omega
    have hsn := flatL_snoc (mkA l i) (mkL l i (mkA l i))
    have d1 := at_c G l hl (2 + i) 9 (by omega) (by omega)
    have d2 := at_c G l hl (10 + i) 3 (by omega) (by omega)
    have d3 := fun h : 0 < i => at_c G l hl (20 + i) i (by omega) (by omega)
    have d4 := at_c G l hl (30 + i) 4 (by omega) (by omega)
    have d5 := at_c G l hl (40 + i) 2 (by omega) (by omega)
    have q1 := atF_bound l (2 + i) (most := 9) (by omega)
    have q2 := atF_bound l (10 + i) (most := 3) (by omega)
    have q3 := fun h : 0 < i => atF_bound l (20 + i) (most := i) (by omega)
    have q4 := atF_bound l (30 + i) (most := 4) (by omega)
    have q5 := atF_bound l (40 + i) (most := 2) (by omega)
    simp only [pn, Int.natCast_add, Int.cast_ofNat_Int] at d1 d2 d3 d4 d5
    have hmk : flatL (mkA l (i + 1)) = flatL (mkA l i ++ [mkL l i (mkA l i)]) := rfl
    have hdf := hdef i (mkA l i)
    by_cases h0 : 0 < i
    · have d3 := d3 h0
      have q3 := q3 h0
      have hj : (atF l (20 + i) i).toNat < (mkA l i).length := by rw [mkA_len]; omega
      have hgb : (flatL (mkA l i))[(atF l (20 + i) i).toNat * 5 + 1]? = some (pint .i64 ((mkA l i).getD (atF l (20 + i) i).toNat default).base) := by
        rw [flatL_get hj 1 (by omega), List.getD_eq_getElem?_getD, List.getElem?_eq_getElem hj]
        rfl
      by_cases h1 : atF l (10 + i) 3 = 1
      · rw [if_pos ⟨h0, h1⟩] at hdf
        rw [h1] at d2
        generalize atF l (2 + i) 9 = x1 at *
        generalize atF l (20 + i) i = x3 at *
        generalize atF l (30 + i) 4 = x4 at *
        generalize atF l (40 + i) 2 = x5 at *
        generalize poolL.getD ((s0 + i) % 16) [] = pt at *
        repeat' (first
    | (with_reducible apply W_seq_k; intro nx hnx)
    | (with_reducible first | apply W_block | apply W_scope)
    | (with_reducible refine W_prune 253 ?_; simp only [prb, Nat.reducePow, Nat.reduceDiv, Nat.reduceMod, Nat.reduceBEq]; with_reducible apply W_region_l)
    | ((first | (with_reducible apply WL_op; intro nx hnx) | with_reducible refine Ev_out ?_ | (with_reducible refine pfresh_k hnm fun nm hnm => ?_; (try simp only [fmb] at hnm)) | (with_reducible refine pborn_mu hnm fun nm hnm => ?_; (try simp only [fmb] at hnm)) | (with_reducible refine pmaybe_k ?_; intro bn hbn)); try (simp (maxSteps := 2000000) (disch := omega) only [evb, evd, pbuiltin, constPV, pnck, seqK, blockK, scopeK, pbin, pun, ppick, plen, piaddr, pindex, pfield, pslice, pbound, pconv, pelems, pextract, pmm, PV.mem?, PV.one, PV.cells, pageq, peqs, peq1, pmakes, pstore, pbytes, pmark, pusd, pust, psrc, pkey, pnile, pcap, pgrow, List.set, Value.cells, ↓popG_eq, ↓pop.eq_1, ↓List.getElem?_map, ↓List.getElem?_cons_zero, ↓List.getElem?_cons_succ, Value.oneCell', Nat.reduceAdd, Nat.reduceMul, Nat.reduceSub, Nat.reduceLeDiff, Nat.reduceEqDiff, ↓reduceIte, ne_eq, reduceCtorEq, forall_const, exists_and_left, exists_eq_left', eq_self, Nat.reduceLT, Int.reduceLT, Int.reduceLE, Int.reduceToNat, Int.reduceAdd, Int.reduceSub, Int.reduceNeg, hnm, Tryd.tf0, Tryd.tf1, Tryd.tf2, Tryd.tf3, Tryd.tf4, Tryd.tf9, Tryd.tf22, Tryd.tf23, Tryd.tf45, Tryd.teq45, Tryd.teq94, Tryd.teq104, Tryd.teq113, Tryd.teq114, Tryd.call30, Tryd.call31, hfl, m16, hgb]); repeat (refine And.intro (by omega) ?_))
    | ((with_reducible first | apply WL_nil | apply W_label | apply W_skip | apply W_exit | apply W_ret); try simp only [seqK, blockK, scopeK, ↓reduceIte, Nat.reduceEqDiff])
    | (with_reducible apply pguard_intro <;> (intro hc; (try simp only [hcb, reduceCtorEq, forall_const, ne_eq] at hc); first | (exfalso; omega) | (exfalso; exact hc trivial) | refine Ev_in ?_))
    | (with_reducible apply W_cond_k; intro _ _ ea eb; (simp only [condK, cob, opnd, constPV, Nat.reduceEqDiff, Nat.reduceLT, ↓reduceIte, hcb, reduceCtorEq, forall_const, ne_eq]); subst ea eb; first | (refine ⟨fun hc => ?_, fun hc => ?_⟩ <;> first | (exfalso; omega) | (exfalso; exact hc trivial) | skip) | skip)
    | (with_reducible apply hnx; clear hnx nx)
    | (with_reducible refine And.intro (by omega) ?_)
    | (with_reducible refine And.intro ?_ ?_)
    | (with_reducible refine pcall_k (cp) ?_; rintro _ _ ⟨rfl, rfl⟩ -; refine Ev_in ?_)
    | (with_reducible refine pcall_k (d1) ?_; rintro _ _ ⟨rfl, rfl⟩ -; refine Ev_in ?_)
    | (with_reducible refine pcall_k (d2) ?_; rintro _ _ ⟨rfl, rfl⟩ -; refine Ev_in ?_)
    | (with_reducible refine pcall_k (d3) ?_; rintro _ _ ⟨rfl, rfl⟩ -; refine Ev_in ?_)
    | (with_reducible refine pcall_k (d4) ?_; rintro _ _ ⟨rfl, rfl⟩ -; refine Ev_in ?_)
    | (with_reducible refine pcall_k (d5) ?_; rintro _ _ ⟨rfl, rfl⟩ -; refine Ev_in ?_)
    | (clear hnx nx; with_reducible apply hnx; clear hnx nx)
    | (clear hnx nx; clear hnx nx; with_reducible apply hnx; clear hnx nx)
    | (clear hnx nx; clear hnx nx; clear hnx nx; with_reducible apply hnx; clear hnx nx))
        all_goals first | exact absurd trivial hc | contradiction | exact fun h => False.elim h | (exfalso; omega) | (exfalso; have hc := of_decide_eq_false hc; omega) | (exfalso; simp only [Bool.not_false, Bool.not_true, decide_eq_true_eq, decide_eq_false_iff_not] at *; omega) | skip
        rename_i N2 g2 N1 g1
        refine hlp _ (3 + n0 - (i + 1)) ⟨fr 64 [(6, pn (i + 1)), (5, .row nm 5 (i + 1)), (4, pn s0), (3, pn (3 + n0)), (0, wP l)], [(nm, ⟨45, true, 5, flatL (mkA l (i + 1))⟩)]⟩ (by omega) ?_ ⟨i + 1, nm, by omega, rfl, rfl⟩
        rw [hmk, hsn, hdf]
        refine Wk_fr (by simp only [wkb, Nat.reduceEqDiff, Nat.reduceLT, ↓reduceIte, pn]) ?_
        refine ⟨fun x hx => ?_, by simp [names, hnm]⟩
        simp only [List.mem_cons, List.not_mem_nil, or_false] at hx ⊢
        exact .inl hx
      · rw [if_neg fun h => h1 h.2] at hdf
        generalize atF l (2 + i) 9 = x1 at *
        generalize atF l (10 + i) 3 = x2 at *
        generalize poolL.getD ((s0 + i) % 16) [] = pt at *
        repeat' (first
    | (with_reducible apply W_seq_k; intro nx hnx)
    | (with_reducible first | apply W_block | apply W_scope)
    | (with_reducible refine W_prune 253 ?_; simp only [prb, Nat.reducePow, Nat.reduceDiv, Nat.reduceMod, Nat.reduceBEq]; with_reducible apply W_region_l)
    | ((first | (with_reducible apply WL_op; intro nx hnx) | with_reducible refine Ev_out ?_ | (with_reducible refine pfresh_k hnm fun nm hnm => ?_; (try simp only [fmb] at hnm)) | (with_reducible refine pborn_mu hnm fun nm hnm => ?_; (try simp only [fmb] at hnm)) | (with_reducible refine pmaybe_k ?_; intro bn hbn)); try (simp (maxSteps := 2000000) (disch := omega) only [evb, evd, pbuiltin, constPV, pnck, seqK, blockK, scopeK, pbin, pun, ppick, plen, piaddr, pindex, pfield, pslice, pbound, pconv, pelems, pextract, pmm, PV.mem?, PV.one, PV.cells, pageq, peqs, peq1, pmakes, pstore, pbytes, pmark, pusd, pust, psrc, pkey, pnile, pcap, pgrow, List.set, Value.cells, ↓popG_eq, ↓pop.eq_1, ↓List.getElem?_map, ↓List.getElem?_cons_zero, ↓List.getElem?_cons_succ, Value.oneCell', Nat.reduceAdd, Nat.reduceMul, Nat.reduceSub, Nat.reduceLeDiff, Nat.reduceEqDiff, ↓reduceIte, ne_eq, reduceCtorEq, forall_const, exists_and_left, exists_eq_left', eq_self, Nat.reduceLT, Int.reduceLT, Int.reduceLE, Int.reduceToNat, Int.reduceAdd, Int.reduceSub, Int.reduceNeg, hnm, Tryd.tf0, Tryd.tf1, Tryd.tf2, Tryd.tf3, Tryd.tf4, Tryd.tf9, Tryd.tf22, Tryd.tf23, Tryd.tf45, Tryd.teq45, Tryd.teq94, Tryd.teq104, Tryd.teq113, Tryd.teq114, Tryd.call30, Tryd.call31, hfl, m16]); repeat (refine And.intro (by omega) ?_))
    | ((with_reducible first | apply WL_nil | apply W_label | apply W_skip | apply W_exit | apply W_ret); try simp only [seqK, blockK, scopeK, ↓reduceIte, Nat.reduceEqDiff])
    | (with_reducible apply pguard_intro <;> (intro hc; (try simp only [hcb, reduceCtorEq, forall_const, ne_eq] at hc); first | (exfalso; omega) | (exfalso; exact hc trivial) | refine Ev_in ?_))
    | (with_reducible apply W_cond_k; intro _ _ ea eb; (simp only [condK, cob, opnd, constPV, Nat.reduceEqDiff, Nat.reduceLT, ↓reduceIte, hcb, reduceCtorEq, forall_const, ne_eq]); subst ea eb; first | (refine ⟨fun hc => ?_, fun hc => ?_⟩ <;> first | (exfalso; omega) | (exfalso; exact hc trivial) | skip) | skip)
    | (with_reducible apply hnx; clear hnx nx)
    | (with_reducible refine And.intro (by omega) ?_)
    | (with_reducible refine And.intro ?_ ?_)
    | (with_reducible refine pcall_k (cp) ?_; rintro _ _ ⟨rfl, rfl⟩ -; refine Ev_in ?_)
    | (with_reducible refine pcall_k (d1) ?_; rintro _ _ ⟨rfl, rfl⟩ -; refine Ev_in ?_)
    | (with_reducible refine pcall_k (d2) ?_; rintro _ _ ⟨rfl, rfl⟩ -; refine Ev_in ?_)
    | (clear hnx nx; with_reducible apply hnx; clear hnx nx)
    | (clear hnx nx; clear hnx nx; with_reducible apply hnx; clear hnx nx)
    | (clear hnx nx; clear hnx nx; clear hnx nx; with_reducible apply hnx; clear hnx nx))
        all_goals first | exact absurd trivial hc | contradiction | exact fun h => False.elim h | (exfalso; omega) | (exfalso; have hc := of_decide_eq_false hc; omega) | (exfalso; simp only [Bool.not_false, Bool.not_true, decide_eq_true_eq, decide_eq_false_iff_not] at *; omega) | skip
        rename_i N2 g2 N1 g1
        refine hlp _ (3 + n0 - (i + 1)) ⟨fr 64 [(6, pn (i + 1)), (5, .row nm 5 (i + 1)), (4, pn s0), (3, pn (3 + n0)), (0, wP l)], [(nm, ⟨45, true, 5, flatL (mkA l (i + 1))⟩)]⟩ (by omega) ?_ ⟨i + 1, nm, by omega, rfl, rfl⟩
        rw [hmk, hsn, hdf]
        refine Wk_fr (by simp only [wkb, Nat.reduceEqDiff, Nat.reduceLT, ↓reduceIte, pn]) ?_
        refine ⟨fun x hx => ?_, by simp [names, hnm]⟩
        simp only [List.mem_cons, List.not_mem_nil, or_false] at hx ⊢
        exact .inl hx
    · rw [if_neg fun h => h0 h.1] at hdf
      generalize atF l (2 + i) 9 = x1 at *
      generalize poolL.getD ((s0 + i) % 16) [] = pt at *
      repeat' (first
    | (with_reducible apply W_seq_k; intro nx hnx)
    | (with_reducible first | apply W_block | apply W_scope)
    | (with_reducible refine W_prune 253 ?_; simp only [prb, Nat.reducePow, Nat.reduceDiv, Nat.reduceMod, Nat.reduceBEq]; with_reducible apply W_region_l)
    | ((first | (with_reducible apply WL_op; intro nx hnx) | with_reducible refine Ev_out ?_ | (with_reducible refine pfresh_k hnm fun nm hnm => ?_; (try simp only [fmb] at hnm)) | (with_reducible refine pborn_mu hnm fun nm hnm => ?_; (try simp only [fmb] at hnm)) | (with_reducible refine pmaybe_k ?_; intro bn hbn)); try (simp (maxSteps := 2000000) (disch := omega) only [evb, evd, pbuiltin, constPV, pnck, seqK, blockK, scopeK, pbin, pun, ppick, plen, piaddr, pindex, pfield, pslice, pbound, pconv, pelems, pextract, pmm, PV.mem?, PV.one, PV.cells, pageq, peqs, peq1, pmakes, pstore, pbytes, pmark, pusd, pust, psrc, pkey, pnile, pcap, pgrow, List.set, Value.cells, ↓popG_eq, ↓pop.eq_1, ↓List.getElem?_map, ↓List.getElem?_cons_zero, ↓List.getElem?_cons_succ, Value.oneCell', Nat.reduceAdd, Nat.reduceMul, Nat.reduceSub, Nat.reduceLeDiff, Nat.reduceEqDiff, ↓reduceIte, ne_eq, reduceCtorEq, forall_const, exists_and_left, exists_eq_left', eq_self, Nat.reduceLT, Int.reduceLT, Int.reduceLE, Int.reduceToNat, Int.reduceAdd, Int.reduceSub, Int.reduceNeg, hnm, Tryd.tf0, Tryd.tf1, Tryd.tf2, Tryd.tf3, Tryd.tf4, Tryd.tf9, Tryd.tf22, Tryd.tf23, Tryd.tf45, Tryd.teq45, Tryd.teq94, Tryd.teq104, Tryd.teq113, Tryd.teq114, Tryd.call30, Tryd.call31, hfl, m16]); repeat (refine And.intro (by omega) ?_))
    | ((with_reducible first | apply WL_nil | apply W_label | apply W_skip | apply W_exit | apply W_ret); try simp only [seqK, blockK, scopeK, ↓reduceIte, Nat.reduceEqDiff])
    | (with_reducible apply pguard_intro <;> (intro hc; (try simp only [hcb, reduceCtorEq, forall_const, ne_eq] at hc); first | (exfalso; omega) | (exfalso; exact hc trivial) | refine Ev_in ?_))
    | (with_reducible apply W_cond_k; intro _ _ ea eb; (simp only [condK, cob, opnd, constPV, Nat.reduceEqDiff, Nat.reduceLT, ↓reduceIte, hcb, reduceCtorEq, forall_const, ne_eq]); subst ea eb; first | (refine ⟨fun hc => ?_, fun hc => ?_⟩ <;> first | (exfalso; omega) | (exfalso; exact hc trivial) | skip) | skip)
    | (with_reducible apply hnx; clear hnx nx)
    | (with_reducible refine And.intro (by omega) ?_)
    | (with_reducible refine And.intro ?_ ?_)
    | (with_reducible refine pcall_k (cp) ?_; rintro _ _ ⟨rfl, rfl⟩ -; refine Ev_in ?_)
    | (with_reducible refine pcall_k (d1) ?_; rintro _ _ ⟨rfl, rfl⟩ -; refine Ev_in ?_)
    | (clear hnx nx; with_reducible apply hnx; clear hnx nx)
    | (clear hnx nx; clear hnx nx; with_reducible apply hnx; clear hnx nx)
    | (clear hnx nx; clear hnx nx; clear hnx nx; with_reducible apply hnx; clear hnx nx))
      all_goals first | exact absurd trivial hc | contradiction | exact fun h => False.elim h | (exfalso; omega) | (exfalso; have hc := of_decide_eq_false hc; omega) | (exfalso; simp only [Bool.not_false, Bool.not_true, decide_eq_true_eq, decide_eq_false_iff_not] at *; omega) | skip
      rename_i N2 g2 N1 g1
      refine hlp _ (3 + n0 - (i + 1)) ⟨fr 64 [(6, pn (i + 1)), (5, .row nm 5 (i + 1)), (4, pn s0), (3, pn (3 + n0)), (0, wP l)], [(nm, ⟨45, true, 5, flatL (mkA l (i + 1))⟩)]⟩ (by omega) ?_ ⟨i + 1, nm, by omega, rfl, rfl⟩
      rw [hmk, hsn, hdf]
      refine Wk_fr (by simp only [wkb, Nat.reduceEqDiff, Nat.reduceLT, ↓reduceIte, pn]) ?_
      refine ⟨fun x hx => ?_, by simp [names, hnm]⟩
      simp only [List.mem_cons, List.not_mem_nil, or_false] at hx ⊢
      exact .inl hx
  · have hi2 : i = 3 + n0 := by omega
    subst hi2
    repeat' (first
    | (with_reducible apply W_seq_k; intro nx hnx)
    | (with_reducible first | apply W_block | apply W_scope)
    | (with_reducible refine W_prune 253 ?_; simp only [prb, Nat.reducePow, Nat.reduceDiv, Nat.reduceMod, Nat.reduceBEq]; with_reducible apply W_region_l)
    | ((first | (with_reducible apply WL_op; intro nx hnx) | with_reducible refine Ev_out ?_ | (with_reducible refine pfresh_k hnm fun nm hnm => ?_; (try simp only [fmb] at hnm)) | (with_reducible refine pborn_mu hnm fun nm hnm => ?_; (try simp only [fmb] at hnm)) | (with_reducible refine pmaybe_k ?_; intro bn hbn)); try (simp (maxSteps := 2000000) (disch := omega) only [evb, evd, pbuiltin, constPV, pnck, seqK, blockK, scopeK, pbin, pun, ppick, plen, piaddr, pindex, pfield, pslice, pbound, pconv, pelems, pextract, pmm, PV.mem?, PV.one, PV.cells, pageq, peqs, peq1, pmakes, pstore, pbytes, pmark, pusd, pust, psrc, pkey, pnile, pcap, pgrow, List.set, Value.cells, ↓popG_eq, ↓pop.eq_1, ↓List.getElem?_map, ↓List.getElem?_cons_zero, ↓List.getElem?_cons_succ, Value.oneCell', Nat.reduceAdd, Nat.reduceMul, Nat.reduceSub, Nat.reduceLeDiff, Nat.reduceEqDiff, ↓reduceIte, ne_eq, reduceCtorEq, forall_const, exists_and_left, exists_eq_left', eq_self, Nat.reduceLT, Int.reduceLT, Int.reduceLE, Int.reduceToNat, Int.reduceAdd, Int.reduceSub, Int.reduceNeg, hnm, Tryd.tf0, Tryd.tf1, Tryd.tf2, Tryd.tf3, Tryd.tf4, Tryd.tf9, Tryd.tf22, Tryd.tf23, Tryd.tf45, Tryd.teq45, Tryd.teq94, Tryd.teq104, Tryd.teq113, Tryd.teq114, Tryd.call30, Tryd.call31, hfl]); repeat (refine And.intro (by omega) ?_))
    | ((with_reducible first | apply WL_nil | apply W_label | apply W_skip | apply W_exit | apply W_ret); try simp only [seqK, blockK, scopeK, ↓reduceIte, Nat.reduceEqDiff])
    | (with_reducible apply pguard_intro <;> (intro hc; (try simp only [hcb, reduceCtorEq, forall_const, ne_eq] at hc); first | (exfalso; omega) | (exfalso; exact hc trivial) | refine Ev_in ?_))
    | (with_reducible apply W_cond_k; intro _ _ ea eb; (simp only [condK, cob, opnd, constPV, Nat.reduceEqDiff, Nat.reduceLT, ↓reduceIte, hcb, reduceCtorEq, forall_const, ne_eq]); subst ea eb; first | (refine ⟨fun hc => ?_, fun hc => ?_⟩ <;> first | (exfalso; omega) | (exfalso; exact hc trivial) | skip) | skip)
    | (with_reducible apply hnx; clear hnx nx)
    | (with_reducible refine And.intro (by omega) ?_)
    | (with_reducible refine And.intro ?_ ?_)
    | (clear hnx nx; with_reducible apply hnx; clear hnx nx)
    | (clear hnx nx; clear hnx nx; with_reducible apply hnx; clear hnx nx)
    | (clear hnx nx; clear hnx nx; clear hnx nx; with_reducible apply hnx; clear hnx nx))
    all_goals first | exact absurd trivial hc | contradiction | exact fun h => False.elim h | (exfalso; omega) | (exfalso; have hc := of_decide_eq_false hc; omega) | (exfalso; simp only [Bool.not_false, Bool.not_true, decide_eq_true_eq, decide_eq_false_iff_not] at *; omega) | skip
    refine hfin _ _ (Fin_ret1 rfl (Sub_refl (by simp [names])) ?_)
    simp only [fr_getD_cons, Nat.reduceEqDiff, Nat.reduceLT, ↓reduceIte]
    exact ⟨A, rfl, rfl⟩
theorem letters_c (G : Globs) (l : List Int) (hl : okI l) : PCalls Tryd.prog G 9 [wP l] [] (fun res H => res = ltsP (lettersF l) ∧ H = []) :=
  CRL.frz ((letters_r G l hl).mono fun res H ⟨n, h1, h2⟩ => .inr ⟨n, h1, h2⟩)
end Go.PM

namespace Go.PM
open Go.Proofs
theorem mkA_get (l : List Int) (n j : Nat) (hj : j < n) : (mkA l (n + 1)).getD j default = (mkA l n).getD j default := by
  rw [mkA, List.getD_eq_getElem?_getD, List.getElem?_append_left (by rw [mkA_len]; exact hj), ← List.getD_eq_getElem?_getD]
theorem mkA_last (l : List Int) (n : Nat) : (mkA l (n + 1)).getD n default = mkL l n (mkA l n) := by
  rw [mkA, List.getD_eq_getElem?_getD, List.getElem?_append_right (by rw [mkA_len]; exact Nat.le_refl _), mkA_len, Nat.sub_self]
  rfl
theorem mkA_texts (l : List Int) : ∀ n, texts (mkA l n) = (List.range n).map fun i => poolL.getD (((atF l 1 16).toNat + i) % 16) []
  | 0 => rfl
  | n + 1 => by
    rw [mkA, texts, List.map_append, List.range_succ, List.map_append, ← mkA_texts l n]
    congr 1
    simp only [List.map_cons, List.map_nil, mkL]
    split <;> rfl
/-- What holds of a letter that is made. -/
def goodL (a : List Ltr) (j : Nat) (x : Ltr) : Prop := (0 ≤ x.base ∧ x.base ≤ j) ∧ (a.getD x.base.toNat default).base = x.base ∧ (x.base = j → x.mark = 0 ∧ x.case_ = 0) ∧ (0 ≤ x.mark ∧ x.mark ≤ 15) ∧ (0 ≤ x.case_ ∧ x.case_ ≤ 1) ∧ (1 ≤ x.width ∧ x.width ≤ 1000)
theorem mkA_good (l : List Int) : ∀ n j, j < n → goodL (mkA l n) j ((mkA l n).getD j default)
  | 0, j, h => by omega
  | n + 1, j, h => by
    by_cases hj : j < n
    · obtain ⟨h1, h2, h3, h4, h5, h6⟩ := mkA_good l n j hj
      rw [mkA_get l n j hj]
      refine ⟨h1, ?_, h3, h4, h5, h6⟩
      rw [mkA_get l n _ (by omega)]
      exact h2
    · have hjn : j = n := by omega
      subst hjn
      rw [mkA_last]
      have q1 := atF_bound l (2 + j) (most := 9) (by omega)
      have q4 := atF_bound l (30 + j) (most := 4) (by omega)
      have q5 := atF_bound l (40 + j) (most := 2) (by omega)
      unfold mkL
      split
      · rename_i hc
        have q3 := atF_bound l (20 + j) (most := j) (by omega)
        obtain ⟨h1, h2, h3, h4, h5, h6⟩ := mkA_good l j (atF l (20 + j) j).toNat (by omega)
        refine ⟨⟨?_, ?_⟩, ?_, ?_, ⟨?_, ?_⟩, ⟨?_, ?_⟩, ⟨?_, ?_⟩⟩ <;> simp only <;> try omega
        rw [mkA_get l j _ (by omega)]
        exact h2
      · rename_i hc
        refine ⟨⟨?_, ?_⟩, ?_, ?_, ⟨?_, ?_⟩, ⟨?_, ?_⟩, ⟨?_, ?_⟩⟩ <;> simp only <;> try omega
        · rw [Int.toNat_natCast, mkA_last, mkL, if_neg hc]
        · intro _; exact ⟨trivial, trivial⟩
set_option maxRecDepth 100000 in
theorem pool_nodup : ∀ s, s < 16 → ∀ n, n < 9 → ((List.range n).map fun i => poolL.getD ((s + i) % 16) []).Nodup := by decide +kernel
set_option maxRecDepth 100000 in
theorem pool_plain : ∀ k, k < 16 → plainB (poolL.getD k []) = true := by decide +kernel
theorem letters_valid (l : List Int) : validF (lettersF l) = true := by
  have b0 := atF_bound l 0 (most := 6) (by omega)
  have b1 := atF_bound l 1 (most := 16) (by omega)
  unfold lettersF
  obtain ⟨n, hn⟩ : ∃ n, n = 3 + (atF l 0 6).toNat := ⟨_, rfl⟩
  rw [← hn, validF_iff]
  refine ⟨by rw [mkA_len]; omega, by rw [mkA_len]; omega, ?_, ?_⟩
  · unfold okFrom
    rw [List.drop_zero, List.all_eq_true]
    intro j hj
    have hj : j < n := by
      have := List.mem_range.1 hj
      rwa [mkA_len] at this
    obtain ⟨h1, h2, h3, h4, h5, h6⟩ := mkA_good l n j hj
    have ht : ((mkA l n).getD j default).text = poolL.getD (((atF l 1 16).toNat + j) % 16) [] := by
      have h7 : (texts (mkA l n))[j]? = _ := congrArg (fun q : List (List UInt8) => q[j]?) (mkA_texts l n)
      rw [texts, List.getElem?_map, List.getElem?_map, List.getElem?_range hj] at h7
      have hl : j < (mkA l n).length := by rw [mkA_len]; exact hj
      rw [List.getD_eq_getElem?_getD]
      rw [List.getElem?_eq_getElem hl] at h7 ⊢
      exact Option.some.inj h7
    rw [okLtr_iff]
    refine ⟨?_, h1.1, by rw [mkA_len]; omega, fun hb => ?_, h4.1, h4.2, h5.1, h5.2, h6.1, h6.2, h3⟩
    · rw [ht]
      exact pool_plain _ (by omega)
    · have := h2
      rw [List.getD_eq_getElem?_getD, List.getElem?_eq_getElem hb] at this
      exact this
  · rw [mkA_texts]
    exact pool_nodup _ (by omega) _ (by omega)
theorem lettersF_len (l : List Int) : 3 ≤ (lettersF l).length ∧ (lettersF l).length ≤ 8 := by
  have b0 := atF_bound l 0 (most := 6) (by omega)
  unfold lettersF
  rw [mkA_len]
  omega
theorem valid_HA {a : List Ltr} (h : validF a = true) : HA a := by
  obtain ⟨h1, h2, h3, h4⟩ := validF_iff.1 h
  refine ⟨by omega, fun x hx => ?_⟩
  obtain ⟨j, hj, rfl⟩ := List.mem_iff_getElem.1 hx
  have := (valid_text h hj).2
  obtain ⟨k1, k2, k3, k4, k5, k6, k7, k8, k9, k10, k11⟩ := okLtr_iff.1 (okFrom_get h3 hj)
  exact ⟨by omega, ⟨by omega, by omega⟩, by omega, by omega⟩
end Go.PM

namespace Go.PM
open Go.Proofs
attribute [local irreducible] W PCalls pcall pcallI WL
set_option maxRecDepth 100000
set_option maxHeartbeats 8000000
theorem same_c (G : Globs) (x : Ltr) (b : List UInt8) (c : Int) : PCalls Tryd.prog G 41 [ltP x, .ptr c 0] [(c, ⟨9, false, 0, [pstr b]⟩)] (fun res H => res = pbool (decide (x.text = b)) ∧ H = [(c, ⟨9, false, 0, [pstr b]⟩)]) := by
  (refine PCalls_f Tryd.func41 rfl Tryd.ntmps41 Tryd.results41 (by simp) fun fin hfin => ?_; have hnm : True := trivial; simp (maxSteps := 2000000) (disch := omega) only [evb, evd, pbuiltin, constPV, pnck, seqK, blockK, scopeK, pbin, pun, ppick, plen, piaddr, pindex, pfield, pslice, pbound, pconv, pelems, pextract, pmm, PV.mem?, PV.one, PV.cells, pageq, peqs, peq1, pmakes, pstore, pbytes, pmark, pusd, pust, psrc, pkey, pnile, pcap, pgrow, List.set, Value.cells, ↓popG_eq, ↓pop.eq_1, ↓List.getElem?_map, ↓List.getElem?_cons_zero, ↓List.getElem?_cons_succ, Value.oneCell', Nat.reduceAdd, Nat.reduceMul, Nat.reduceSub, Nat.reduceLeDiff, Nat.reduceEqDiff, ↓reduceIte, ne_eq, reduceCtorEq, forall_const, exists_and_left, exists_eq_left', eq_self, Nat.reduceLT, Int.reduceLT, Int.reduceLE, Int.reduceToNat, Int.reduceAdd, Int.reduceSub, Int.reduceNeg, hnm, Tryd.tf0, Tryd.tf4, Tryd.tf9, Tryd.tf45, Tryd.teq45, Tryd.teq94, Tryd.teq104, Tryd.teq113, Tryd.teq114])
  repeat' (first
    | (with_reducible apply W_seq_k; intro nx hnx)
    | (with_reducible first | apply W_block | apply W_scope)
    | (with_reducible refine W_prune 15 ?_; simp only [prb, Nat.reducePow, Nat.reduceDiv, Nat.reduceMod, Nat.reduceBEq]; with_reducible apply W_region_l)
    | ((first | (with_reducible apply WL_op; intro nx hnx) | with_reducible refine Ev_out ?_ | (with_reducible refine pfresh_k hnm fun nm hnm => ?_; (try simp only [fmb] at hnm)) | (with_reducible refine pborn_mu hnm fun nm hnm => ?_; (try simp only [fmb] at hnm))); try (simp (maxSteps := 2000000) (disch := omega) only [evb, evd, pbuiltin, constPV, pnck, seqK, blockK, scopeK, pbin, pun, ppick, plen, piaddr, pindex, pfield, pslice, pbound, pconv, pelems, pextract, pmm, PV.mem?, PV.one, PV.cells, pageq, peqs, peq1, pmakes, pstore, pbytes, pmark, pusd, pust, psrc, pkey, pnile, pcap, pgrow, List.set, Value.cells, ↓popG_eq, ↓pop.eq_1, ↓List.getElem?_map, ↓List.getElem?_cons_zero, ↓List.getElem?_cons_succ, Value.oneCell', Nat.reduceAdd, Nat.reduceMul, Nat.reduceSub, Nat.reduceLeDiff, Nat.reduceEqDiff, ↓reduceIte, ne_eq, reduceCtorEq, forall_const, exists_and_left, exists_eq_left', eq_self, Nat.reduceLT, Int.reduceLT, Int.reduceLE, Int.reduceToNat, Int.reduceAdd, Int.reduceSub, Int.reduceNeg, hnm, Tryd.tf0, Tryd.tf4, Tryd.tf9, Tryd.tf45, Tryd.teq45, Tryd.teq94, Tryd.teq104, Tryd.teq113, Tryd.teq114]); repeat (refine And.intro (by omega) ?_))
    | ((with_reducible first | apply WL_nil | apply W_label | apply W_skip | apply W_exit | apply W_ret); try simp only [seqK, blockK, scopeK, ↓reduceIte, Nat.reduceEqDiff])
    | (with_reducible apply W_cond_k; intro _ _ ea eb; (simp only [condK, cob, opnd, constPV, Nat.reduceEqDiff, Nat.reduceLT, ↓reduceIte, hcb, reduceCtorEq, forall_const, ne_eq]); subst ea eb; first | (refine ⟨fun hc => ?_, fun hc => ?_⟩ <;> first | (exfalso; omega) | (exfalso; exact hc trivial) | skip) | skip)
    | (with_reducible apply hnx; clear hnx nx)
    | (with_reducible refine And.intro (by omega) ?_)
    | (with_reducible refine And.intro ?_ ?_)
    | (clear hnx nx; with_reducible apply hnx; clear hnx nx)
    | (clear hnx nx; clear hnx nx; with_reducible apply hnx; clear hnx nx)
    | (clear hnx nx; clear hnx nx; clear hnx nx; with_reducible apply hnx; clear hnx nx))
  refine hfin _ _ (Fin_ret1 rfl (H := [(c, ⟨9, false, 0, [pstr b]⟩)]) ⟨fun x hx => List.mem_cons_of_mem _ hx, by simp [names]⟩ ?_)
  simp only [fr_getD_cons, Nat.reduceEqDiff, Nat.reduceLT, ↓reduceIte]
  refine ⟨?_, by trivial⟩
  by_cases h : x.text = b <;> simp [h]
theorem findT_none {a : List Ltr} {b : List UInt8} (h : ∀ x ∈ a, ¬ x.text = b) : findT a b = none := by
  unfold findT
  rw [List.findIdx?_eq_none_iff]
  intro x hx
  simp [h x hx]
theorem findT_some {a : List Ltr} {b : List UInt8} {k : Nat} (hk : k < a.length) (h1 : a[k].text = b) (h2 : ∀ x ∈ a.take k, ¬ x.text = b) : findT a b = some k := by
  unfold findT
  rw [List.findIdx?_eq_some_iff_getElem]
  refine ⟨hk, by simp [h1], fun j hj => ?_⟩
  have := h2 a[j] (by rw [List.mem_take_iff_getElem]; exact ⟨j, by omega, rfl⟩)
  simp [this]
/-- What IndexFunc hands back. -/
def idxT (a : List Ltr) (b : List UInt8) : Int := match findT a b with | some k => k | none => -1
theorem indexFunc_c (G : Globs) (a : List Ltr) (b : List UInt8) (n c : Int) (ha : a.length ≤ 1000000) : PCalls Tryd.prog G 40 [.row n 5 a.length, .func 41 [.ptr c 0]] [(c, ⟨9, false, 0, [pstr b]⟩), (n, ⟨45, true, 5, flatL a⟩)] (fun res H => res = pint .i64 (idxT a b) ∧ H = [(c, ⟨9, false, 0, [pstr b]⟩), (n, ⟨45, true, 5, flatL a⟩)]) := by
  refine PCalls.nd fun nd => ?_
  have hne : (c = n) = False ∧ (n = c) = False := by
    simp only [names, List.map_cons, List.map_nil, List.nodup_cons, List.mem_cons, List.not_mem_nil, or_false] at nd
    exact ⟨eq_false nd.1, eq_false fun e => nd.1 e.symm⟩
  (refine PCalls_f Tryd.func40 rfl Tryd.ntmps40 Tryd.results40 (by simp) fun fin hfin => ?_; have hnm : True := trivial; simp (maxSteps := 2000000) (disch := omega) only [evb, evd, pbuiltin, constPV, pnck, seqK, blockK, scopeK, pbin, pun, ppick, plen, piaddr, pindex, pfield, pslice, pbound, pconv, pelems, pextract, pmm, PV.mem?, PV.one, PV.cells, pageq, peqs, peq1, pmakes, pstore, pbytes, pmark, pusd, pust, psrc, pkey, pnile, pcap, pgrow, List.set, Value.cells, ↓popG_eq, ↓pop.eq_1, ↓List.getElem?_map, ↓List.getElem?_cons_zero, ↓List.getElem?_cons_succ, Value.oneCell', Nat.reduceAdd, Nat.reduceMul, Nat.reduceSub, Nat.reduceLeDiff, Nat.reduceEqDiff, ↓reduceIte, ne_eq, reduceCtorEq, forall_const, exists_and_left, exists_eq_left', eq_self, Nat.reduceLT, Int.reduceLT, Int.reduceLE, Int.reduceToNat, Int.reduceAdd, Int.reduceSub, Int.reduceNeg, hnm, Tryd.tf0, Tryd.tf3, Tryd.tf4, Tryd.tf23, Tryd.tf45, Tryd.teq45, Tryd.tf64, Tryd.teq94, Tryd.teq104, Tryd.teq113, Tryd.teq114])
  repeat' (first
    | (with_reducible apply W_seq_k; intro nx hnx)
    | (with_reducible first | apply W_block | apply W_scope)
    | (with_reducible refine W_prune 435 ?_; simp only [prb, Nat.reducePow, Nat.reduceDiv, Nat.reduceMod, Nat.reduceBEq]; with_reducible apply W_region_l)
    | ((first | (with_reducible apply WL_op; intro nx hnx) | with_reducible refine Ev_out ?_); try (simp (maxSteps := 2000000) (disch := omega) only [evb, evd, pbuiltin, constPV, pnck, seqK, blockK, scopeK, pbin, pun, ppick, plen, piaddr, pindex, pfield, pslice, pbound, pconv, pelems, pextract, pmm, PV.mem?, PV.one, PV.cells, pageq, peqs, peq1, pmakes, pstore, pbytes, pmark, pusd, pust, psrc, pkey, pnile, pcap, pgrow, List.set, Value.cells, ↓popG_eq, ↓pop.eq_1, ↓List.getElem?_map, ↓List.getElem?_cons_zero, ↓List.getElem?_cons_succ, Value.oneCell', Nat.reduceAdd, Nat.reduceMul, Nat.reduceSub, Nat.reduceLeDiff, Nat.reduceEqDiff, ↓reduceIte, ne_eq, reduceCtorEq, forall_const, exists_and_left, exists_eq_left', eq_self, Nat.reduceLT, Int.reduceLT, Int.reduceLE, Int.reduceToNat, Int.reduceAdd, Int.reduceSub, Int.reduceNeg, hnm, Tryd.tf0, Tryd.tf3, Tryd.tf4, Tryd.tf23, Tryd.tf45, Tryd.teq45, Tryd.tf64, Tryd.teq94, Tryd.teq104, Tryd.teq113, Tryd.teq114, hne]); repeat (refine And.intro (by omega) ?_))
    | ((with_reducible first | apply WL_nil | apply W_label | apply W_skip | apply W_exit | apply W_ret); try simp only [seqK, blockK, scopeK, ↓reduceIte, Nat.reduceEqDiff])
    | (with_reducible apply W_cond_k; intro _ _ ea eb; (simp only [condK, cob, opnd, constPV, Nat.reduceEqDiff, Nat.reduceLT, ↓reduceIte, hcb, reduceCtorEq, forall_const, ne_eq]); subst ea eb; first | (refine ⟨fun hc => ?_, fun hc => ?_⟩ <;> first | (exfalso; omega) | (exfalso; exact hc trivial) | skip) | skip)
    | (with_reducible apply hnx; clear hnx nx)
    | (with_reducible refine And.intro (by omega) ?_)
    | (with_reducible refine And.intro ?_ ?_)
    | (clear hnx nx; with_reducible apply hnx; clear hnx nx)
    | (clear hnx nx; clear hnx nx; with_reducible apply hnx; clear hnx nx)
    | (clear hnx nx; clear hnx nx; clear hnx nx; with_reducible apply hnx; clear hnx nx))
  refine W_loop_k (fun z τ => ∃ (i : Nat), i ≤ a.length ∧ z = a.length - i ∧ (∀ x ∈ a.take i, ¬ x.text = b) ∧ τ = ⟨fr 19 [(8, pn i), (7, pint .i64 a.length), (0, .row n 5 a.length), (1, .func 41 [.ptr c 0])], [(c, ⟨9, false, 0, [pstr b]⟩), (n, ⟨45, true, 5, flatL a⟩)]⟩) a.length
    ⟨fr 19 [(8, pn 0), (7, pint .i64 a.length), (0, .row n 5 a.length), (1, .func 41 [.ptr c 0])], [(c, ⟨9, false, 0, [pstr b]⟩), (n, ⟨45, true, 5, flatL a⟩)]⟩ (by
    refine Wk_fr (by simp only [wkb, Nat.reduceEqDiff, Nat.reduceLT, ↓reduceIte, pn]) ?_
    exact Sub_refl (by simp [names, hne])) ⟨0, by omega, by omega, by simp, rfl⟩ ?_
  rintro z τ ⟨i, hi, rfl, hno, rfl⟩ lp hlp
  by_cases hil : i < a.length
  · have hat := flatL_at hil
    have hat : List.take 5 (List.drop (i * 5) (flatL a)) = [pstr a[i].text, pint .i64 a[i].base, pint .i64 a[i].mark, pint .i64 a[i].case_, pint .i64 a[i].width] := hat
    have c1 := same_c G a[i] b c
    have hfl := flatL_len a
    repeat' (first
    | (with_reducible apply W_seq_k; intro nx hnx)
    | (with_reducible first | apply W_block | apply W_scope)
    | (with_reducible refine W_prune 435 ?_; simp only [prb, Nat.reducePow, Nat.reduceDiv, Nat.reduceMod, Nat.reduceBEq]; with_reducible apply W_region_l)
    | ((first | (with_reducible apply WL_op; intro nx hnx) | with_reducible refine Ev_out ?_); try (simp (maxSteps := 2000000) (disch := omega) only [evb, evd, pbuiltin, constPV, pnck, seqK, blockK, scopeK, pbin, pun, ppick, plen, piaddr, pindex, pfield, pslice, pbound, pconv, pelems, pextract, pmm, PV.mem?, PV.one, PV.cells, pageq, peqs, peq1, pmakes, pstore, pbytes, pmark, pusd, pust, psrc, pkey, pnile, pcap, pgrow, List.set, Value.cells, ↓popG_eq, ↓pop.eq_1, ↓List.getElem?_map, ↓List.getElem?_cons_zero, ↓List.getElem?_cons_succ, Value.oneCell', Nat.reduceAdd, Nat.reduceMul, Nat.reduceSub, Nat.reduceLeDiff, Nat.reduceEqDiff, ↓reduceIte, ne_eq, reduceCtorEq, forall_const, exists_and_left, exists_eq_left', eq_self, Nat.reduceLT, Int.reduceLT, Int.reduceLE, Int.reduceToNat, Int.reduceAdd, Int.reduceSub, Int.reduceNeg, hnm, Tryd.tf0, Tryd.tf3, Tryd.tf4, Tryd.tf23, Tryd.tf45, Tryd.teq45, Tryd.tf64, Tryd.teq94, Tryd.teq104, Tryd.teq113, Tryd.teq114, hne, hat, hfl]); repeat (refine And.intro (by omega) ?_))
    | ((with_reducible first | apply WL_nil | apply W_label | apply W_skip | apply W_exit | apply W_ret); try simp only [seqK, blockK, scopeK, ↓reduceIte, Nat.reduceEqDiff])
    | (with_reducible apply W_cond_k; intro _ _ ea eb; (simp only [condK, cob, opnd, constPV, Nat.reduceEqDiff, Nat.reduceLT, ↓reduceIte, hcb, reduceCtorEq, forall_const, ne_eq]); subst ea eb; first | (refine ⟨fun hc => ?_, fun hc => ?_⟩ <;> first | (exfalso; omega) | (exfalso; exact hc trivial) | skip) | skip)
    | (with_reducible apply hnx; clear hnx nx)
    | (with_reducible refine And.intro (by omega) ?_)
    | (with_reducible refine And.intro ?_ ?_)
    | ((refine pcall_midn [] [_] [_] rfl c1 ?_; rintro _ _ ⟨rfl, rfl⟩ -; refine Ev_in ?_))
    | (clear hnx nx; with_reducible apply hnx; clear hnx nx)
    | (clear hnx nx; clear hnx nx; with_reducible apply hnx; clear hnx nx)
    | (clear hnx nx; clear hnx nx; clear hnx nx; with_reducible apply hnx; clear hnx nx))
    all_goals first
      | exact absurd trivial hc
      | exact fun h => False.elim h
      | (exfalso
         omega)
      | skip
    · exact (by kernel_rfl : callable Tryd.prog 41 = true)
    · have hk := findT_some hil hc hno
      refine hfin _ _ (Fin_ret1 rfl (Sub_refl (by simp [names, hne])) ?_)
      simp only [fr_getD_cons, Nat.reduceEqDiff, Nat.reduceLT, ↓reduceIte]
      exact ⟨by rw [idxT, hk], by trivial⟩
    · refine hlp _ (a.length - (i + 1)) _ (by omega) ?_ ⟨i + 1, by omega, rfl, ?_, rfl⟩
      · refine Wk_fr (by simp only [wkb, Nat.reduceEqDiff, Nat.reduceLT, ↓reduceIte, pn]) ?_
        exact Sub_refl (by simp [names, hne])
      · intro x hx
        rw [List.take_add_one, List.getElem?_eq_getElem hil, List.mem_append] at hx
        rcases hx with hx | hx
        · exact hno x hx
        · simp only [Option.toList_some, List.mem_singleton] at hx
          rw [hx]
          exact hc
  · have hi2 : i = a.length := by omega
    subst hi2
    repeat' (first
    | (with_reducible apply W_seq_k; intro nx hnx)
    | (with_reducible first | apply W_block | apply W_scope)
    | (with_reducible refine W_prune 435 ?_; simp only [prb, Nat.reducePow, Nat.reduceDiv, Nat.reduceMod, Nat.reduceBEq]; with_reducible apply W_region_l)
    | ((first | (with_reducible apply WL_op; intro nx hnx) | with_reducible refine Ev_out ?_); try (simp (maxSteps := 2000000) (disch := omega) only [evb, evd, pbuiltin, constPV, pnck, seqK, blockK, scopeK, pbin, pun, ppick, plen, piaddr, pindex, pfield, pslice, pbound, pconv, pelems, pextract, pmm, PV.mem?, PV.one, PV.cells, pageq, peqs, peq1, pmakes, pstore, pbytes, pmark, pusd, pust, psrc, pkey, pnile, pcap, pgrow, List.set, Value.cells, ↓popG_eq, ↓pop.eq_1, ↓List.getElem?_map, ↓List.getElem?_cons_zero, ↓List.getElem?_cons_succ, Value.oneCell', Nat.reduceAdd, Nat.reduceMul, Nat.reduceSub, Nat.reduceLeDiff, Nat.reduceEqDiff, ↓reduceIte, ne_eq, reduceCtorEq, forall_const, exists_and_left, exists_eq_left', eq_self, Nat.reduceLT, Int.reduceLT, Int.reduceLE, Int.reduceToNat, Int.reduceAdd, Int.reduceSub, Int.reduceNeg, hnm, Tryd.tf0, Tryd.tf3, Tryd.tf4, Tryd.tf23, Tryd.tf45, Tryd.teq45, Tryd.tf64, Tryd.teq94, Tryd.teq104, Tryd.teq113, Tryd.teq114, hne]); repeat (refine And.intro (by omega) ?_))
    | ((with_reducible first | apply WL_nil | apply W_label | apply W_skip | apply W_exit | apply W_ret); try simp only [seqK, blockK, scopeK, ↓reduceIte, Nat.reduceEqDiff])
    | (with_reducible apply W_cond_k; intro _ _ ea eb; (simp only [condK, cob, opnd, constPV, Nat.reduceEqDiff, Nat.reduceLT, ↓reduceIte, hcb, reduceCtorEq, forall_const, ne_eq]); subst ea eb; first | (refine ⟨fun hc => ?_, fun hc => ?_⟩ <;> first | (exfalso; omega) | (exfalso; exact hc trivial) | skip) | skip)
    | (with_reducible apply hnx; clear hnx nx)
    | (with_reducible refine And.intro (by omega) ?_)
    | (with_reducible refine And.intro ?_ ?_)
    | (clear hnx nx; with_reducible apply hnx; clear hnx nx)
    | (clear hnx nx; clear hnx nx; with_reducible apply hnx; clear hnx nx)
    | (clear hnx nx; clear hnx nx; clear hnx nx; with_reducible apply hnx; clear hnx nx))
    all_goals first
      | exact absurd trivial hc
      | exact fun h => False.elim h
      | (exfalso
         omega)
      | skip
    have hk := findT_none (by rw [List.take_length] at hno; exact hno)
    refine hfin _ _ (Fin_ret1 rfl (Sub_refl (by simp [names, hne])) ?_)
    simp only [fr_getD_cons, Nat.reduceEqDiff, Nat.reduceLT, ↓reduceIte]
    exact ⟨by rw [idxT, hk], by trivial⟩
end Go.PM

namespace Go.PM
open Go.Proofs
attribute [local irreducible] W PCalls pcall pcallI WL
set_option maxRecDepth 100000
set_option maxHeartbeats 8000000
theorem index63_c (G : Globs) (s : List UInt8) (c : UInt8) : PCalls Tryd.prog G 63 [pstr s, .val (.string ⟨#[c]⟩)] [] (fun res H => res = pint .i64 (Lib.indexByte s c) ∧ H = []) :=
  PCalls_pure (P := Tryd.prog) (G := G) (f := 63) [.string (mk s), .string ⟨#[c]⟩] (.int .i64 (Lib.indexByte s c)) (fun w => by
    have := Tryd.strings_Index_one (mk s) c w
    simpa [mk] using this)
theorem count_c (G : Globs) (s : List UInt8) (c : UInt8) : PCalls Tryd.prog G 62 [pstr s, .val (.string ⟨#[c]⟩)] [] (fun res H => res = pn (s.count c) ∧ H = []) :=
  PCalls_pure (P := Tryd.prog) (G := G) (f := 62) [.string (mk s), .string ⟨#[c]⟩] (.int .i64 (s.count c : Nat)) (fun w => by
    have := Tryd.strings_Count_one (mk s) c w
    simpa [mk, Lib.countByte] using this)
/-- A row of texts, or none. -/
@[reducible] def CRS (l : List (List UInt8)) (res : PV) (H : Heap) : Prop := (l = [] ∧ res = pnil ∧ H = []) ∨ (∃ n : Int, res = .row n 1 l.length ∧ H = [(n, ⟨9, true, 1, l.map pstr⟩)])
theorem set_mid {A R : List PV} {z x : PV} {k : Nat} (h : A.length = k) : List.take k (A ++ z :: R) ++ [x] ++ List.drop (k + 1) (A ++ z :: R) = A ++ x :: R := by
  subst h
  rw [List.take_left' rfl, ← List.drop_drop, List.drop_left' rfl]
  simp
theorem genSplit_r (G : Globs) (s : List UInt8) (c : UInt8) (hs : s.length ≤ 100000000) : PCalls Tryd.prog G 54 [pstr s, .val (.string ⟨#[c]⟩), .val (.int .i64 0), .val (.int .i64 (-1))] [] (CRS (splitF c s)) := by
  have c1 := count_c G s c
  have hcl : s.count c ≤ s.length := List.count_le_length
  (refine PCalls_f Tryd.func54 rfl Tryd.ntmps54 Tryd.results54 (by simp) fun fin hfin => ?_; have hnm : True := trivial; simp (maxSteps := 2000000) (disch := omega) only [evb, evd, pbuiltin, constPV, pnck, seqK, blockK, scopeK, pbin, pun, ppick, plen, piaddr, pindex, pfield, pslice, pbound, pconv, pelems, pextract, pmm, PV.mem?, PV.one, PV.cells, pageq, peqs, peq1, pmakes, pstore, pbytes, pmark, pusd, pust, psrc, pkey, pnile, pcap, pgrow, List.set, Value.cells, ↓popG_eq, ↓pop.eq_1, ↓List.getElem?_map, ↓List.getElem?_cons_zero, ↓List.getElem?_cons_succ, Value.oneCell', Nat.reduceAdd, Nat.reduceMul, Nat.reduceSub, Nat.reduceLeDiff, Nat.reduceEqDiff, ↓reduceIte, ne_eq, reduceCtorEq, forall_const, exists_and_left, exists_eq_left', eq_self, Nat.reduceLT, Int.reduceLT, Int.reduceLE, Int.reduceToNat, Int.reduceAdd, Int.reduceSub, Int.reduceNeg, hnm, Tryd.tf0, Tryd.tf3, Tryd.tf4, Tryd.tf9, Tryd.tf26, Tryd.teq45, Tryd.teq94, Tryd.teq104, Tryd.teq113, Tryd.teq114, Tryd.call61, Tryd.call62, Tryd.call63])
  repeat' (first
    | (with_reducible apply W_seq_k; intro nx hnx)
    | (with_reducible first | apply W_block | apply W_scope)
    | (with_reducible refine W_prune 3855 ?_; simp only [prb, Nat.reducePow, Nat.reduceDiv, Nat.reduceMod, Nat.reduceBEq]; with_reducible apply W_region_l)
    | ((first | (with_reducible apply WL_op; intro nx hnx) | with_reducible refine Ev_out ?_ | (with_reducible refine pfresh_k hnm fun nm hnm => ?_; (try simp only [fmb] at hnm)) | (with_reducible refine pborn_mu hnm fun nm hnm => ?_; (try simp only [fmb] at hnm)) | (with_reducible refine pmaybe_k ?_; intro bn hbn)); try (simp (maxSteps := 2000000) (disch := omega) only [evb, evd, pbuiltin, constPV, pnck, seqK, blockK, scopeK, pbin, pun, ppick, plen, piaddr, pindex, pfield, pslice, pbound, pconv, pelems, pextract, pmm, PV.mem?, PV.one, PV.cells, pageq, peqs, peq1, pmakes, pstore, pbytes, pmark, pusd, pust, psrc, pkey, pnile, pcap, pgrow, List.set, Value.cells, ↓popG_eq, ↓pop.eq_1, ↓List.getElem?_map, ↓List.getElem?_cons_zero, ↓List.getElem?_cons_succ, Value.oneCell', Nat.reduceAdd, Nat.reduceMul, Nat.reduceSub, Nat.reduceLeDiff, Nat.reduceEqDiff, ↓reduceIte, ne_eq, reduceCtorEq, forall_const, exists_and_left, exists_eq_left', eq_self, Nat.reduceLT, Int.reduceLT, Int.reduceLE, Int.reduceToNat, Int.reduceAdd, Int.reduceSub, Int.reduceNeg, hnm, Tryd.tf0, Tryd.tf3, Tryd.tf4, Tryd.tf9, Tryd.tf26, Tryd.teq45, Tryd.teq94, Tryd.teq104, Tryd.teq113, Tryd.teq114, Tryd.call61, Tryd.call62, Tryd.call63]); repeat (refine And.intro (by omega) ?_))
    | ((with_reducible first | apply WL_nil | apply W_label | apply W_skip | apply W_exit | apply W_ret); try simp only [seqK, blockK, scopeK, ↓reduceIte, Nat.reduceEqDiff])
    | (with_reducible apply W_cond_k; intro _ _ ea eb; (simp only [condK, cob, opnd, constPV, Nat.reduceEqDiff, Nat.reduceLT, ↓reduceIte, hcb, reduceCtorEq, forall_const, ne_eq]); subst ea eb; first | (refine ⟨fun hc => ?_, fun hc => ?_⟩ <;> first | (exfalso; omega) | (exfalso; exact hc trivial) | skip) | skip)
    | (with_reducible apply hnx; clear hnx nx)
    | (with_reducible refine And.intro (by omega) ?_)
    | (with_reducible refine And.intro ?_ ?_)
    | (with_reducible refine pcall_k (c1) ?_; rintro _ _ ⟨rfl, rfl⟩ -; refine Ev_in ?_)
    | (clear hnx nx; with_reducible apply hnx; clear hnx nx)
    | (clear hnx nx; clear hnx nx; with_reducible apply hnx; clear hnx nx)
    | (clear hnx nx; clear hnx nx; clear hnx nx; with_reducible apply hnx; clear hnx nx))
  all_goals first
    | exact absurd trivial hc
    | (exfalso
       omega)
    | skip
  have hm : min ((s.count c : Int) + 1) ((s.length : Int) + 1) = ((s.count c + 1 : Nat) : Int) := by omega
  have hz : ((s.count c + 1 : Nat) : Int) - 1 = ((s.count c : Nat) : Int) := by omega
  rw [hm, hz, Int.toNat_natCast]
  obtain ⟨n, hn⟩ : ∃ n, n = s.count c := ⟨_, rfl⟩
  rw [← hn]
  generalize nm = M at *
  refine W_loop_k (fun z τ => ∃ (i : Nat) (r : List UInt8) (out : List (List UInt8)), i ≤ n ∧ z = n - i ∧ out.length = i ∧ r.count c = n - i ∧ r.length ≤ s.length ∧ splitF c s = out ++ splitF c r ∧ τ = ⟨fr 66 [(10, pn i), (3, pn n), (9, .row M 1 (n + 1)), (0, pstr r), (1, .val (.string ⟨#[c]⟩)), (2, .val (.int .i64 0))], [(M, ⟨9, true, 1, out.map pstr ++ List.replicate (n + 1 - i) (.val (.string ⟨#[]⟩))⟩)]⟩) n
    ⟨fr 66 [(10, pn 0), (3, pn n), (9, .row M 1 (n + 1)), (0, pstr s), (1, .val (.string ⟨#[c]⟩)), (2, .val (.int .i64 0))], [(M, ⟨9, true, 1, List.replicate (n + 1) (.val (.string ⟨#[]⟩))⟩)]⟩ (by
    refine Wk_fr (by simp only [wkb, Nat.reduceEqDiff, Nat.reduceLT, ↓reduceIte, pn]) ?_
    rw [List.flatten_replicate_singleton]
    exact Sub_refl (by simp [names])) ⟨0, s, [], by omega, by omega, rfl, by omega, by omega, by simp, rfl⟩ ?_
  rintro z τ ⟨i, r, out, hi, rfl, hol, hrc, hrl, hsp, rfl⟩ lp hlp
  subst hol
  have hrep : List.replicate (n + 1 - out.length) (PV.val (.string ⟨#[]⟩)) = .val (.string ⟨#[]⟩) :: List.replicate (n + 1 - (out.length + 1)) (PV.val (.string ⟨#[]⟩)) := by
    rw [show n + 1 - out.length = (n + 1 - (out.length + 1)) + 1 by omega, List.replicate_succ]
  have hlen : (out.map pstr ++ List.replicate (n + 1 - out.length) (PV.val (.string ⟨#[]⟩))).length = n + 1 := by
    rw [List.length_append, List.length_map, List.length_replicate]
    omega
  by_cases hil : out.length < n
  · rcases idx_cases c r with ⟨h1, h2⟩ | ⟨t, r', h1, h2, h3⟩
    · have := List.count_eq_zero.2 h2
      omega
    · have c2 := index63_c G r c
      rw [h3] at c2
      have hr1 : List.take t.length r = t := by rw [h1, List.take_left' rfl]
      have hr2 : List.drop (t.length + 1) (List.take r.length r) = r' := by
        rw [List.take_length, h1, ← List.drop_drop, List.drop_left' rfl]
        rfl
      have hlr : r.length = t.length + 1 + r'.length := by rw [h1]; simp; omega
      have hcr : r'.count c = n - (out.length + 1) := by
        rw [h1, List.count_append, List.count_eq_zero.2 h2, List.count_cons_self] at hrc
        omega
      rw [h1, splitF_cut h2] at hsp
      clear h1
      have hn1 : ((t.length : Int) + 1).toNat = t.length + 1 := by omega
      have hn2 : ((t.length : Int) + 0).toNat = t.length := by omega
      repeat' (first
    | (with_reducible apply W_seq_k; intro nx hnx)
    | (with_reducible first | apply W_block | apply W_scope)
    | (with_reducible refine W_prune 3855 ?_; simp only [prb, Nat.reducePow, Nat.reduceDiv, Nat.reduceMod, Nat.reduceBEq]; with_reducible apply W_region_l)
    | ((first | (with_reducible apply WL_op; intro nx hnx) | with_reducible refine Ev_out ?_ | (with_reducible refine pfresh_k hnm fun nm hnm => ?_; (try simp only [fmb] at hnm)) | (with_reducible refine pborn_mu hnm fun nm hnm => ?_; (try simp only [fmb] at hnm)) | (with_reducible refine pmaybe_k ?_; intro bn hbn)); try (simp (maxSteps := 2000000) (disch := omega) only [evb, evd, pbuiltin, constPV, pnck, seqK, blockK, scopeK, pbin, pun, ppick, plen, piaddr, pindex, pfield, pslice, pbound, pconv, pelems, pextract, pmm, PV.mem?, PV.one, PV.cells, pageq, peqs, peq1, pmakes, pstore, pbytes, pmark, pusd, pust, psrc, pkey, pnile, pcap, pgrow, List.set, Value.cells, ↓popG_eq, ↓pop.eq_1, ↓List.getElem?_map, ↓List.getElem?_cons_zero, ↓List.getElem?_cons_succ, Value.oneCell', Nat.reduceAdd, Nat.reduceMul, Nat.reduceSub, Nat.reduceLeDiff, Nat.reduceEqDiff, ↓reduceIte, ne_eq, reduceCtorEq, forall_const, exists_and_left, exists_eq_left', eq_self, Nat.reduceLT, Int.reduceLT, Int.reduceLE, Int.reduceToNat, Int.reduceAdd, Int.reduceSub, Int.reduceNeg, hnm, Tryd.tf0, Tryd.tf3, Tryd.tf4, Tryd.tf9, Tryd.tf26, Tryd.teq45, Tryd.teq94, Tryd.teq104, Tryd.teq113, Tryd.teq114, Tryd.call61, Tryd.call62, Tryd.call63, hr1, hr2, hn1, hn2, hlen]); repeat (refine And.intro (by omega) ?_))
    | ((with_reducible first | apply WL_nil | apply W_label | apply W_skip | apply W_exit | apply W_ret); try simp only [seqK, blockK, scopeK, ↓reduceIte, Nat.reduceEqDiff])
    | (with_reducible apply W_cond_k; intro _ _ ea eb; (simp only [condK, cob, opnd, constPV, Nat.reduceEqDiff, Nat.reduceLT, ↓reduceIte, hcb, reduceCtorEq, forall_const, ne_eq]); subst ea eb; first | (refine ⟨fun hc => ?_, fun hc => ?_⟩ <;> first | (exfalso; omega) | (exfalso; exact hc trivial) | skip) | skip)
    | (with_reducible apply hnx; clear hnx nx)
    | (with_reducible refine And.intro (by omega) ?_)
    | (with_reducible refine And.intro ?_ ?_)
    | (with_reducible refine pcall_k (c2) ?_; rintro _ _ ⟨rfl, rfl⟩ -; refine Ev_in ?_)
    | (clear hnx nx; with_reducible apply hnx; clear hnx nx)
    | (clear hnx nx; clear hnx nx; with_reducible apply hnx; clear hnx nx)
    | (clear hnx nx; clear hnx nx; clear hnx nx; with_reducible apply hnx; clear hnx nx))
      all_goals first
        | exact absurd trivial hc
        | exact fun h => False.elim h
        | (exfalso
           omega)
        | skip
      refine hlp _ (n - (out.length + 1)) ⟨fr 66 [(10, pn (out.length + 1)), (3, pn n), (9, .row M 1 (n + 1)), (0, pstr r'), (1, .val (.string ⟨#[c]⟩)), (2, .val (.int .i64 0))], [(M, ⟨9, true, 1, (out ++ [t]).map pstr ++ List.replicate (n + 1 - (out.length + 1)) (.val (.string ⟨#[]⟩))⟩)]⟩ (by omega) ?_ ⟨out.length + 1, r', out ++ [t], by omega, rfl, by simp, hcr, by omega, by simpa using hsp, rfl⟩
      rw [hrep, set_mid (by simp), List.map_append]
      refine Wk_fr (by simp only [wkb, Nat.reduceEqDiff, Nat.reduceLT, ↓reduceIte, pn]) ?_
      rw [List.append_assoc]
      exact Sub_refl (by simp [names])
  · have hi2 : out.length = n := by omega
    have hr0 : c ∉ r := List.count_eq_zero.1 (by omega)
    rw [splitF_none hr0] at hsp
    repeat' (first
    | (with_reducible apply W_seq_k; intro nx hnx)
    | (with_reducible first | apply W_block | apply W_scope)
    | (with_reducible refine W_prune 3855 ?_; simp only [prb, Nat.reducePow, Nat.reduceDiv, Nat.reduceMod, Nat.reduceBEq]; with_reducible apply W_region_l)
    | ((first | (with_reducible apply WL_op; intro nx hnx) | with_reducible refine Ev_out ?_ | (with_reducible refine pfresh_k hnm fun nm hnm => ?_; (try simp only [fmb] at hnm)) | (with_reducible refine pborn_mu hnm fun nm hnm => ?_; (try simp only [fmb] at hnm)) | (with_reducible refine pmaybe_k ?_; intro bn hbn)); try (simp (maxSteps := 2000000) (disch := omega) only [evb, evd, pbuiltin, constPV, pnck, seqK, blockK, scopeK, pbin, pun, ppick, plen, piaddr, pindex, pfield, pslice, pbound, pconv, pelems, pextract, pmm, PV.mem?, PV.one, PV.cells, pageq, peqs, peq1, pmakes, pstore, pbytes, pmark, pusd, pust, psrc, pkey, pnile, pcap, pgrow, List.set, Value.cells, ↓popG_eq, ↓pop.eq_1, ↓List.getElem?_map, ↓List.getElem?_cons_zero, ↓List.getElem?_cons_succ, Value.oneCell', Nat.reduceAdd, Nat.reduceMul, Nat.reduceSub, Nat.reduceLeDiff, Nat.reduceEqDiff, ↓reduceIte, ne_eq, reduceCtorEq, forall_const, exists_and_left, exists_eq_left', eq_self, Nat.reduceLT, Int.reduceLT, Int.reduceLE, Int.reduceToNat, Int.reduceAdd, Int.reduceSub, Int.reduceNeg, hnm, Tryd.tf0, Tryd.tf3, Tryd.tf4, Tryd.tf9, Tryd.tf26, Tryd.teq45, Tryd.teq94, Tryd.teq104, Tryd.teq113, Tryd.teq114, Tryd.call61, Tryd.call62, Tryd.call63, hlen]); repeat (refine And.intro (by omega) ?_))
    | ((with_reducible first | apply WL_nil | apply W_label | apply W_skip | apply W_exit | apply W_ret); try simp only [seqK, blockK, scopeK, ↓reduceIte, Nat.reduceEqDiff])
    | (with_reducible apply W_cond_k; intro _ _ ea eb; (simp only [condK, cob, opnd, constPV, Nat.reduceEqDiff, Nat.reduceLT, ↓reduceIte, hcb, reduceCtorEq, forall_const, ne_eq]); subst ea eb; first | (refine ⟨fun hc => ?_, fun hc => ?_⟩ <;> first | (exfalso; omega) | (exfalso; exact hc trivial) | skip) | skip)
    | (with_reducible apply hnx; clear hnx nx)
    | (with_reducible refine And.intro (by omega) ?_)
    | (with_reducible refine And.intro ?_ ?_)
    | (clear hnx nx; with_reducible apply hnx; clear hnx nx)
    | (clear hnx nx; clear hnx nx; with_reducible apply hnx; clear hnx nx)
    | (clear hnx nx; clear hnx nx; clear hnx nx; with_reducible apply hnx; clear hnx nx))
    all_goals first
      | exact absurd trivial hc
      | exact fun h => False.elim h
      | (exfalso
         omega)
      | skip
    rw [hrep, set_mid (by simp), hi2]
    refine hfin _ _ (Fin_ret1 rfl (Sub_refl (by simp [names])) ?_)
    simp only [fr_getD_cons, Nat.reduceEqDiff, Nat.reduceLT, ↓reduceIte]
    rw [hsp]
    refine .inr ⟨M, ?_, ?_⟩
    · rw [List.length_append, hi2]
      rfl
    · rw [List.map_append, Nat.sub_self]
      rfl
theorem split_r (G : Globs) (s : List UInt8) (c : UInt8) (hs : s.length ≤ 100000000) : PCalls Tryd.prog G 38 [pstr s, .val (.string ⟨#[c]⟩)] [] (CRS (splitF c s)) := by
  have c1 := genSplit_r G s c hs
  (refine PCalls_f Tryd.func38 rfl Tryd.ntmps38 Tryd.results38 (by simp) fun fin hfin => ?_; have hnm : True := trivial; simp (maxSteps := 2000000) (disch := omega) only [evb, evd, pbuiltin, constPV, pnck, seqK, blockK, scopeK, pbin, pun, ppick, plen, piaddr, pindex, pfield, pslice, pbound, pconv, pelems, pextract, pmm, PV.mem?, PV.one, PV.cells, pageq, peqs, peq1, pmakes, pstore, pbytes, pmark, pusd, pust, psrc, pkey, pnile, pcap, pgrow, List.set, Value.cells, ↓popG_eq, ↓pop.eq_1, ↓List.getElem?_map, ↓List.getElem?_cons_zero, ↓List.getElem?_cons_succ, Value.oneCell', Nat.reduceAdd, Nat.reduceMul, Nat.reduceSub, Nat.reduceLeDiff, Nat.reduceEqDiff, ↓reduceIte, ne_eq, reduceCtorEq, forall_const, exists_and_left, exists_eq_left', eq_self, Nat.reduceLT, Int.reduceLT, Int.reduceLE, Int.reduceToNat, Int.reduceAdd, Int.reduceSub, Int.reduceNeg, hnm, Tryd.tf3, Tryd.tf9, Tryd.tf26, Tryd.teq45, Tryd.teq94, Tryd.teq104, Tryd.teq113, Tryd.teq114, Tryd.call54])
  repeat' (first
    | (with_reducible apply W_seq_k; intro nx hnx)
    | (with_reducible first | apply W_block | apply W_scope)
    | (with_reducible refine W_prune 19 ?_; simp only [prb, Nat.reducePow, Nat.reduceDiv, Nat.reduceMod, Nat.reduceBEq]; with_reducible apply W_region_l)
    | ((first | (with_reducible apply WL_op; intro nx hnx) | with_reducible refine Ev_out ?_); try (simp (maxSteps := 2000000) (disch := omega) only [evb, evd, pbuiltin, constPV, pnck, seqK, blockK, scopeK, pbin, pun, ppick, plen, piaddr, pindex, pfield, pslice, pbound, pconv, pelems, pextract, pmm, PV.mem?, PV.one, PV.cells, pageq, peqs, peq1, pmakes, pstore, pbytes, pmark, pusd, pust, psrc, pkey, pnile, pcap, pgrow, List.set, Value.cells, ↓popG_eq, ↓pop.eq_1, ↓List.getElem?_map, ↓List.getElem?_cons_zero, ↓List.getElem?_cons_succ, Value.oneCell', Nat.reduceAdd, Nat.reduceMul, Nat.reduceSub, Nat.reduceLeDiff, Nat.reduceEqDiff, ↓reduceIte, ne_eq, reduceCtorEq, forall_const, exists_and_left, exists_eq_left', eq_self, Nat.reduceLT, Int.reduceLT, Int.reduceLE, Int.reduceToNat, Int.reduceAdd, Int.reduceSub, Int.reduceNeg, hnm, Tryd.tf3, Tryd.tf9, Tryd.tf26, Tryd.teq45, Tryd.teq94, Tryd.teq104, Tryd.teq113, Tryd.teq114, Tryd.call54]); repeat (refine And.intro (by omega) ?_))
    | ((with_reducible first | apply WL_nil | apply W_label | apply W_skip | apply W_exit | apply W_ret); try simp only [seqK, blockK, scopeK, ↓reduceIte, Nat.reduceEqDiff])
    | (with_reducible apply W_cond_k; intro _ _ ea eb; (simp only [condK, cob, opnd, constPV, Nat.reduceEqDiff, Nat.reduceLT, ↓reduceIte, hcb, reduceCtorEq, forall_const, ne_eq]); subst ea eb; first | (refine ⟨fun hc => ?_, fun hc => ?_⟩ <;> first | (exfalso; omega) | (exfalso; exact hc trivial) | skip) | skip)
    | (with_reducible apply hnx; clear hnx nx)
    | (with_reducible refine And.intro (by omega) ?_)
    | (with_reducible refine And.intro ?_ ?_)
    | ((with_reducible refine pcall_k c1 ?_; rintro _ _ (⟨hv, rfl, rfl⟩ | ⟨n, rfl, rfl⟩) - <;> refine Ev_in ?_))
    | (clear hnx nx; with_reducible apply hnx; clear hnx nx)
    | (clear hnx nx; clear hnx nx; with_reducible apply hnx; clear hnx nx)
    | (clear hnx nx; clear hnx nx; clear hnx nx; with_reducible apply hnx; clear hnx nx))
  · exact absurd hv splitF_ne
  · refine hfin _ _ (Fin_ret1 rfl (Sub_refl (by simp [names])) ?_)
    simp only [fr_getD_cons, Nat.reduceEqDiff, Nat.reduceLT, ↓reduceIte]
    exact .inr ⟨n, rfl, rfl⟩
/-- Texts in a row are turned no more. -/
theorem Px_sts {G : Globs} {O : Int} {t1 : TypeId} (l : List (List UInt8)) : Px G (.row O 1 l.length) [(O, ⟨t1, true, 1, l.map pstr⟩)] (.list 1 (l.map pstr)) [] := by
  have h := Px.freeze (G := G) (.row O 1 l.length) [(O, ⟨t1, true, 1, l.map pstr⟩)] O (o := ⟨t1, true, 1, l.map pstr⟩) (by simp only [look, if_true]) (by simp [frzOk, del])
  have e : frz O (l.map pstr) (.row O 1 l.length) = .list 1 (l.map pstr) := by
    simp only [frz, frz1, if_true]
    rw [if_pos ⟨by simp, by omega⟩, elemsOf, if_pos rfl, List.take_of_length_le (by simp)]
  simp only [e] at h
  simpa [frzH, del] using h
theorem CRS.frz {G : Globs} {f : FuncId} {args : List PV} {b : List (List UInt8)} (h : PCalls Tryd.prog G f args [] (CRS b)) : PCalls Tryd.prog G f args [] (fun res H => res = .list 1 (b.map pstr) ∧ H = []) := by
  refine h.px fun res H hR => ?_
  rcases hR with ⟨rfl, rfl, rfl⟩ | ⟨N, rfl, rfl⟩
  · exact ⟨_, _, Px.nil 1 _, rfl, rfl⟩
  · exact ⟨_, _, Px_sts b, rfl, rfl⟩
theorem split_c (G : Globs) (s : List UInt8) (c : UInt8) (hs : s.length ≤ 100000000) : PCalls Tryd.prog G 38 [pstr s, .val (.string ⟨#[c]⟩)] [] (fun res H => res = .list 1 ((splitF c s).map pstr) ∧ H = []) := CRS.frz (split_r G s c hs)
end Go.PM

namespace Go.PM
open Go.Proofs
attribute [local irreducible] W PCalls pcall pcallI WL
set_option maxRecDepth 100000
set_option maxHeartbeats 8000000
theorem cutF_le (s : List UInt8) (c : UInt8) : (cutF s c).1.length ≤ s.length := by
  unfold cutF
  split
  · simp
    omega
  · simp
theorem splitF_step {c : UInt8} {s : List UInt8} (h : s ≠ []) : ((cutF s c).2.2 = true ∧ splitF c s = (cutF s c).1 :: splitF c (cutF s c).2.1 ∧ (cutF s c).2.1.length < s.length ∧ (cutF s c).1.length ≤ s.length) ∨ ((cutF s c).2.2 = false ∧ splitF c s = [s]) := by
  rcases idx_cases c s with ⟨h1, h2⟩ | ⟨t, r, h1, h2, h3⟩
  · refine .inr ⟨?_, splitF_none h2⟩
    simp [cutF, h1]
  · have e : cutF s c = (t, r, true) := by
      unfold cutF
      rw [h3, if_pos (by omega), Int.toNat_natCast, h1, List.take_left' rfl, ← List.drop_drop, List.drop_left' rfl]
      rfl
    refine .inl ⟨by rw [e], ?_, ?_⟩
    · rw [e]
      conv => lhs; rw [h1]
      exact splitF_cut h2
    · rw [e, h1]
      simp
      omega
/-- The cells of the texts of bases. -/
def secs (xs : List (Ltr × List UInt8)) : List PV := xs.map fun x => pstr x.2
/-- What Parse has read so far. -/
@[reducible] def parS (s r : List UInt8) (xs : List (Ltr × List UInt8)) (A B : Int) : PState := ⟨fr 130 [(6, .row B 1 xs.length), (5, .row A 5 xs.length), (0, pstr r)], [(B, ⟨9, true, 1, secs xs⟩), (A, ⟨45, true, 5, flatL (xs.map Prod.fst)⟩)]⟩
theorem lineF_five {t x b m k w : List UInt8} (h : splitF 32 t = [x, b, m, k, w]) : lineF t = if x = [] ∨ b = [] then none else if (numF m).2 && ((numF k).2 && (numF w).2) then some (⟨x, 0, (numF m).1, (numF k).1, (numF w).1⟩, b) else none := by
  unfold lineF
  rw [h]
theorem lineF_not {t : List UInt8} (h : (splitF 32 t).length ≠ 5) : lineF t = none := by
  unfold lineF
  split
  · rename_i h2
    rw [h2] at h
    exact absurd rfl h
  · rfl
theorem five {l : List (List UInt8)} (h : l.length = 5) : ∃ x b m k w, l = [x, b, m, k, w] := by
  match l, h with
  | [x, b, m, k, w], _ => exact ⟨x, b, m, k, w, rfl⟩
theorem parseF_bad {s : List UInt8} {xs : List (Ltr × List UInt8)} (hs : s.length ≤ 65536) (h : readL (splitF 10 s) = (xs, false)) : parseF s = ([], (xs.length : Int) + 1, 2) := by
  unfold parseF
  rw [if_neg (by omega), h, if_pos rfl]
theorem parseF_none {s : List UInt8} {xs : List (Ltr × List UInt8)} {i : Nat} (hs : s.length ≤ 65536) (h : readL (splitF 10 s) = (xs, true)) (hi : i < xs.length) (h1 : findT (xs.map Prod.fst) xs[i].2 = none) (h2 : ∀ x ∈ xs.take i, (findT (xs.map Prod.fst) x.2).isSome = true) : parseF s = ([], (i : Int) + 1, 6) := by
  unfold parseF
  rw [if_neg (by omega), h, if_neg (by simp)]
  have : (xs.findIdx? fun x => (findT (xs.map Prod.fst) x.2).isNone) = some i := by
    rw [List.findIdx?_eq_some_iff_getElem]
    refine ⟨hi, by simp [h1], fun j hj => ?_⟩
    have := h2 xs[j] (by rw [List.mem_take_iff_getElem]; exact ⟨j, by omega, rfl⟩)
    cases hq : findT (xs.map Prod.fst) xs[j].2 with
    | none => rw [hq] at this; cases this
    | some k => simp
  rw [this]
theorem parseF_ok {s : List UInt8} {xs : List (Ltr × List UInt8)} (hs : s.length ≤ 65536) (h : readL (splitF 10 s) = (xs, true)) (h2 : ∀ x ∈ xs, (findT (xs.map Prod.fst) x.2).isSome = true) : parseF s = if validF (basedF xs) then (basedF xs, 0, 0) else ([], 0, 1) := by
  unfold parseF
  rw [if_neg (by omega), h, if_neg (by simp)]
  have : (xs.findIdx? fun x => (findT (xs.map Prod.fst) x.2).isNone) = none := by
    rw [List.findIdx?_eq_none_iff]
    intro x hx
    have := h2 x hx
    cases hq : findT (xs.map Prod.fst) x.2 with
    | none => rw [hq] at this; cases this
    | some k => simp
  rw [this]
theorem findT_texts {a b : List Ltr} (h : texts a = texts b) (t : List UInt8) : findT a t = findT b t := by
  have e : ∀ a : List Ltr, findT a t = (texts a).findIdx? fun x => decide (x = t) := fun a => by
    unfold findT texts
    rw [List.findIdx?_map]
    rfl
  rw [e, e, h]
/-- The letters, the first i with their bases. -/
def upto (xs : List (Ltr × List UInt8)) (i : Nat) : List Ltr := (basedF xs).take i ++ (xs.map Prod.fst).drop i
theorem basedF_len {xs : List (Ltr × List UInt8)} : (basedF xs).length = xs.length := by simp [basedF]
theorem upto_zero {xs : List (Ltr × List UInt8)} : upto xs 0 = xs.map Prod.fst := by simp [upto]
theorem upto_full {xs : List (Ltr × List UInt8)} : upto xs xs.length = basedF xs := by
  unfold upto
  rw [List.take_of_length_le (by simp [basedF]), List.drop_of_length_le (by simp), List.append_nil]
theorem upto_get {xs : List (Ltr × List UInt8)} {i : Nat} (h : i ≤ xs.length) (j : Nat) : (upto xs i)[j]? = if j < i then (basedF xs)[j]? else (xs.map Prod.fst)[j]? := by
  unfold upto
  have hl : ((basedF xs).take i).length = i := by
    rw [List.length_take, basedF_len]
    omega
  split
  · rename_i hj
    rw [List.getElem?_append_left (by omega), List.getElem?_take, if_pos hj]
  · rename_i hj
    rw [List.getElem?_append_right (by omega), hl, List.getElem?_drop, show i + (j - i) = j by omega]
theorem upto_len {xs : List (Ltr × List UInt8)} {i : Nat} (h : i ≤ xs.length) : (upto xs i).length = xs.length := by
  unfold upto
  rw [List.length_append, List.length_take, List.length_drop, basedF_len, List.length_map]
  omega
theorem based_get {xs : List (Ltr × List UInt8)} {j : Nat} (h : j < xs.length) : (basedF xs)[j]? = some { xs[j].1 with base := (findT (xs.map Prod.fst) xs[j].2).getD 0 } := by
  unfold basedF
  rw [List.getElem?_map, List.getElem?_eq_getElem h]
  rfl
theorem upto_texts {xs : List (Ltr × List UInt8)} {i : Nat} (h : i ≤ xs.length) : texts (upto xs i) = texts (xs.map Prod.fst) := by
  apply List.ext_getElem?
  intro j
  simp only [texts, List.getElem?_map]
  rw [upto_get h]
  split
  · rename_i hj
    rw [based_get (by omega), List.getElem?_eq_getElem (by omega)]
    rfl
  · rw [List.getElem?_map]
theorem upto_step {xs : List (Ltr × List UInt8)} {i k : Nat} (h : i < xs.length) (hk : findT (xs.map Prod.fst) xs[i].2 = some k) (hl : i < (upto xs i).length) : (upto xs i).set i { (upto xs i)[i] with base := k } = upto xs (i + 1) := by
  have hx : (upto xs i)[i] = xs[i].1 := by
    have := upto_get (Nat.le_of_lt h) i
    rw [if_neg (by omega), List.getElem?_eq_getElem hl, List.getElem?_map, List.getElem?_eq_getElem h] at this
    exact Option.some.inj this
  rw [hx]
  apply List.ext_getElem?
  intro j
  rw [List.getElem?_set, upto_get h, upto_get (Nat.le_of_lt h), upto_len (Nat.le_of_lt h)]
  by_cases hj : i = j
  · subst hj
    rw [if_pos rfl, if_pos (by omega), if_pos (by omega), based_get h, hk]
    rfl
  · rw [if_neg hj]
    by_cases h2 : j < i
    · rw [if_pos h2, if_pos (by omega)]
    · rw [if_neg h2, if_neg (by omega)]
theorem valN_from : ∀ (s : List UInt8) (acc : Int), 0 ≤ acc → s.all dig = true → 0 ≤ s.foldl (fun n c => 10 * n + ((c.toNat : Int) - 48)) acc ∧ s.foldl (fun n c => 10 * n + ((c.toNat : Int) - 48)) acc < (acc + 1) * 10 ^ s.length
  | [], acc, h, _ => by simp; omega
  | c :: s, acc, h, hd => by
    simp only [List.all_cons, Bool.and_eq_true] at hd
    have h1 : 48 ≤ (c.toNat : Int) ∧ (c.toNat : Int) ≤ 57 := by
      have := hd.1
      unfold dig at this
      simpa using this
    obtain ⟨h2, h3⟩ := valN_from s (10 * acc + ((c.toNat : Int) - 48)) (by omega) hd.2
    refine ⟨h2, Int.lt_of_lt_of_le h3 ?_⟩
    rw [List.length_cons, Int.pow_succ, Int.mul_comm (10 ^ s.length) 10, ← Int.mul_assoc]
    exact Int.mul_le_mul_of_nonneg_right (by omega) (Int.pow_nonneg (by omega))
theorem numF_bd (s : List UInt8) : 0 ≤ (numF s).1 ∧ (numF s).1 < 1000000 := by
  unfold numF
  split
  · rename_i h
    unfold numB at h
    simp only [Bool.and_eq_true, decide_eq_true_eq] at h
    obtain ⟨h1, h2⟩ := valN_from s 0 (by omega) h.2
    have h3 : (10 : Int) ^ s.length ≤ 10 ^ 6 := by
      have : (10 : Nat) ^ s.length ≤ 10 ^ 6 := Nat.pow_le_pow_right (by omega) (by omega)
      exact_mod_cast this
    show 0 ≤ valN s ∧ valN s < 1000000
    unfold valN
    omega
  · simp
/-- Letters with small numbers. -/
def smallL (x : Ltr) : Prop := x.text.length ≤ 65536 ∧ (0 ≤ x.mark ∧ x.mark < 1000000) ∧ (0 ≤ x.case_ ∧ x.case_ < 1000000) ∧ (0 ≤ x.width ∧ x.width < 1000000)
theorem based_HA {xs : List (Ltr × List UInt8)} (hl : xs.length ≤ 65536) (h : ∀ x ∈ xs, smallL x.1) : HA (basedF xs) := by
  refine ⟨by rw [basedF_len]; omega, fun y hy => ?_⟩
  unfold basedF at hy
  obtain ⟨x, hx, rfl⟩ := List.mem_map.1 hy
  obtain ⟨h1, h2, h3, h4⟩ := h x hx
  refine ⟨?_, ⟨?_, ?_⟩, ?_, ?_⟩ <;> simp only <;> omega
section
variable {P : Program} {G : Globs} {σ : PState}
/-- A call to which letters in a row are lent. -/
theorem pcall_lts {fn : FuncId} {d : Option Tmp} {K : PState → Prop} {q : Bool} {A : Int} {t : TypeId} {a : List Ltr} {n : Nat} {v : Value} (hl : look σ.heap A = some ⟨t, true, 5, flatL a⟩) (hn : n = a.length)
    (hc : PCalls P G fn [ltsP a] [] (fun res H => res = .val v ∧ H = [])) (hk : K (PState.put σ d (.val v))) : @pcallI q P G σ d fn [.row A 5 n] ⟨K⟩ := by
  subst hn
  refine pcall_lend A _ hl (R := fun res H => res = .val v ∧ H = []) ?_ ?_
  · have := frz_lts A a
    simp only [frz] at this
    simp only [List.map_cons, List.map_nil]
    rw [this]
    exact hc
  · rintro res H ⟨rfl, rfl⟩
    exact ⟨rfl, .val v, hk⟩
end
theorem parse_c (G : Globs) (s : List UInt8) : PCalls Tryd.prog G 19 [pstr s] [] (fun res H => ∃ o, res = .tuple [o, pint .i64 (parseF s).2.1, pint .i64 (parseF s).2.2] ∧ CRL (parseF s).1 o H) := by
  (refine PCalls_f Tryd.func19 rfl Tryd.ntmps19 Tryd.results19 (by simp) fun fin hfin => ?_; have hnm : True := trivial; simp (maxSteps := 2000000) (disch := omega) only [evb, evd, pbuiltin, constPV, pnck, seqK, blockK, scopeK, pbin, pun, ppick, plen, piaddr, pindex, pfield, pslice, pbound, pconv, pelems, pextract, pmm, PV.mem?, PV.one, PV.cells, pageq, peqs, peq1, pmakes, pstore, pbytes, pmark, pusd, pust, psrc, pkey, pnile, pcap, pgrow, List.set, Value.cells, ↓popG_eq, ↓pop.eq_1, ↓List.getElem?_map, ↓List.getElem?_cons_zero, ↓List.getElem?_cons_succ, Value.oneCell', Nat.reduceAdd, Nat.reduceMul, Nat.reduceSub, Nat.reduceLeDiff, Nat.reduceEqDiff, ↓reduceIte, ne_eq, reduceCtorEq, forall_const, exists_and_left, exists_eq_left', eq_self, Nat.reduceLT, Int.reduceLT, Int.reduceLE, Int.reduceToNat, Int.reduceAdd, Int.reduceSub, Int.reduceNeg, hnm, Tryd.tf0, Tryd.tf1, Tryd.tf2, Tryd.tf3, Tryd.tf4, Tryd.tf9, Tryd.tf23, Tryd.tf26, Tryd.tf36, Tryd.tf45, Tryd.teq45, Tryd.tf56, Tryd.tf59, Tryd.tf64, Tryd.teq94, Tryd.teq104, Tryd.teq113, Tryd.teq114, Tryd.call37, Tryd.call38, Tryd.call39, Tryd.call40, Tryd.call42])
  repeat' (first
    | (with_reducible apply W_seq_k; intro nx hnx)
    | (with_reducible first | apply W_block | apply W_scope)
    | (with_reducible refine W_prune 567907468902246771870523037057021 ?_; simp only [prb, Nat.reducePow, Nat.reduceDiv, Nat.reduceMod, Nat.reduceBEq]; with_reducible apply W_region_l)
    | ((first | (with_reducible apply WL_op; intro nx hnx) | with_reducible refine Ev_out ?_ | (with_reducible refine pfresh_k hnm fun nm hnm => ?_; (try simp only [fmb] at hnm)) | (with_reducible refine pborn_mu hnm fun nm hnm => ?_; (try simp only [fmb] at hnm)) | (with_reducible refine pmaybe_k ?_; intro bn hbn)); try (simp (maxSteps := 2000000) (disch := omega) only [evb, evd, pbuiltin, constPV, pnck, seqK, blockK, scopeK, pbin, pun, ppick, plen, piaddr, pindex, pfield, pslice, pbound, pconv, pelems, pextract, pmm, PV.mem?, PV.one, PV.cells, pageq, peqs, peq1, pmakes, pstore, pbytes, pmark, pusd, pust, psrc, pkey, pnile, pcap, pgrow, List.set, Value.cells, ↓popG_eq, ↓pop.eq_1, ↓List.getElem?_map, ↓List.getElem?_cons_zero, ↓List.getElem?_cons_succ, Value.oneCell', Nat.reduceAdd, Nat.reduceMul, Nat.reduceSub, Nat.reduceLeDiff, Nat.reduceEqDiff, ↓reduceIte, ne_eq, reduceCtorEq, forall_const, exists_and_left, exists_eq_left', eq_self, Nat.reduceLT, Int.reduceLT, Int.reduceLE, Int.reduceToNat, Int.reduceAdd, Int.reduceSub, Int.reduceNeg, hnm, Tryd.tf0, Tryd.tf1, Tryd.tf2, Tryd.tf3, Tryd.tf4, Tryd.tf9, Tryd.tf23, Tryd.tf26, Tryd.tf36, Tryd.tf45, Tryd.teq45, Tryd.tf56, Tryd.tf59, Tryd.tf64, Tryd.teq94, Tryd.teq104, Tryd.teq113, Tryd.teq114, Tryd.call37, Tryd.call38, Tryd.call39, Tryd.call40, Tryd.call42]); repeat (refine And.intro (by omega) ?_))
    | ((with_reducible first | apply WL_nil | apply W_label | apply W_skip | apply W_exit | apply W_ret); try simp only [seqK, blockK, scopeK, ↓reduceIte, Nat.reduceEqDiff])
    | (with_reducible apply pguard_intro <;> (intro hc; (try simp only [hcb, reduceCtorEq, forall_const, ne_eq] at hc); first | (exfalso; omega) | (exfalso; exact hc trivial) | refine Ev_in ?_))
    | (with_reducible apply W_cond_k; intro _ _ ea eb; (simp only [condK, cob, opnd, constPV, Nat.reduceEqDiff, Nat.reduceLT, ↓reduceIte, hcb, reduceCtorEq, forall_const, ne_eq]); subst ea eb; first | (refine ⟨fun hc => ?_, fun hc => ?_⟩ <;> first | (exfalso; omega) | (exfalso; exact hc trivial) | skip) | skip)
    | (with_reducible apply hnx; clear hnx nx)
    | (with_reducible refine And.intro (by omega) ?_)
    | (with_reducible refine And.intro ?_ ?_)
    | (clear hnx nx; with_reducible apply hnx; clear hnx nx)
    | (clear hnx nx; clear hnx nx; with_reducible apply hnx; clear hnx nx)
    | (clear hnx nx; clear hnx nx; clear hnx nx; with_reducible apply hnx; clear hnx nx))
  all_goals first | exact absurd trivial hc | contradiction | exact fun h => False.elim h | (exfalso; omega) | (exfalso; have hc := of_decide_eq_false hc; omega) | (exfalso; simp only [Bool.not_false, Bool.not_true, decide_eq_true_eq, decide_eq_false_iff_not] at *; omega) | skip
  · have e : parseF s = ([], 0, 4) := by
      unfold parseF
      rw [if_pos (by omega)]
    refine hfin _ _ (Fin_ret3 rfl rfl rfl (Sub_nil _) ?_); simp only [List.getD_cons_zero, List.getD_cons_succ, fr_getD_cons, fr_getD_nil, Nat.reduceEqDiff, Nat.reduceLT, ↓reduceIte]
    rw [e]
    exact ⟨pnil, rfl, .inl ⟨rfl, rfl, by trivial⟩⟩
  have hs : s.length ≤ 65536 := by omega
  refine W_adopt_f 5 45 5 (by simp only [fr_getD_cons, Nat.reduceEqDiff, Nat.reduceLT, ↓reduceIte]) fun A0 hA => ?_
  refine W_adopt_f 6 9 1 (by simp only [fr_getD_cons, Nat.reduceEqDiff, Nat.reduceLT, ↓reduceIte]) fun B0 hB => ?_
  have hAB : (B0 = A0) = False ∧ (A0 = B0) = False := by
    simp only [names, List.map_cons, List.map_nil, List.mem_cons, List.not_mem_nil, or_false] at hB
    exact ⟨eq_false hB, eq_false fun e => hB e.symm⟩
  refine W_loop_k (fun z τ => ∃ (r : List UInt8) (xs : List (Ltr × List UInt8)) (A B : Int), ((B = A) = False ∧ (A = B) = False) ∧ z = r.length ∧ xs.length + r.length ≤ s.length ∧ readL (splitF 10 s) = (xs ++ (readL (splitF 10 r)).1, (readL (splitF 10 r)).2) ∧ (∀ x ∈ xs, smallL x.1) ∧ τ = parS s r xs A B) s.length
    (parS s s [] A0 B0) (by
    refine Wk_fr (by simp only [wkb, Nat.reduceEqDiff, Nat.reduceLT, ↓reduceIte, pn, List.length_nil]) ?_
    exact Sub_refl (by simp [names, hAB])) ⟨s, [], A0, B0, hAB, rfl, by simp, by simp, by simp, rfl⟩ ?_
  clear hAB hB hA hnm
  have hnm : True := trivial
  rintro z τ ⟨r, xs, A, B, hAB, rfl, hxl, hrd, hsm, rfl⟩ lp hlp
  by_cases hr0 : r = []
  · subst hr0
    have hrd : readL (splitF 10 s) = (xs, true) := by rw [hrd]; simp [splitF, readL]
    repeat' (first
    | (with_reducible apply W_seq_k; intro nx hnx)
    | (with_reducible first | apply W_block | apply W_scope)
    | (with_reducible refine W_prune 567907468902246771870523037057021 ?_; simp only [prb, Nat.reducePow, Nat.reduceDiv, Nat.reduceMod, Nat.reduceBEq]; with_reducible apply W_region_l)
    | ((first | (with_reducible apply WL_op; intro nx hnx) | with_reducible refine Ev_out ?_ | (with_reducible refine pfresh_k hnm fun nm hnm => ?_; (try simp only [fmb] at hnm)) | (with_reducible refine pborn_mu hnm fun nm hnm => ?_; (try simp only [fmb] at hnm)) | (with_reducible refine pmaybe_k ?_; intro bn hbn)); try (simp (maxSteps := 2000000) (disch := omega) only [evb, evd, pbuiltin, constPV, pnck, seqK, blockK, scopeK, pbin, pun, ppick, plen, piaddr, pindex, pfield, pslice, pbound, pconv, pelems, pextract, pmm, PV.mem?, PV.one, PV.cells, pageq, peqs, peq1, pmakes, pstore, pbytes, pmark, pusd, pust, psrc, pkey, pnile, pcap, pgrow, List.set, Value.cells, ↓popG_eq, ↓pop.eq_1, ↓List.getElem?_map, ↓List.getElem?_cons_zero, ↓List.getElem?_cons_succ, Value.oneCell', Nat.reduceAdd, Nat.reduceMul, Nat.reduceSub, Nat.reduceLeDiff, Nat.reduceEqDiff, ↓reduceIte, ne_eq, reduceCtorEq, forall_const, exists_and_left, exists_eq_left', eq_self, Nat.reduceLT, Int.reduceLT, Int.reduceLE, Int.reduceToNat, Int.reduceAdd, Int.reduceSub, Int.reduceNeg, hnm, Tryd.tf0, Tryd.tf1, Tryd.tf2, Tryd.tf3, Tryd.tf4, Tryd.tf9, Tryd.tf23, Tryd.tf26, Tryd.tf36, Tryd.tf45, Tryd.teq45, Tryd.tf56, Tryd.tf59, Tryd.tf64, Tryd.teq94, Tryd.teq104, Tryd.teq113, Tryd.teq114, Tryd.call37, Tryd.call38, Tryd.call39, Tryd.call40, Tryd.call42, hAB]); repeat (refine And.intro (by omega) ?_))
    | ((with_reducible first | apply WL_nil | apply W_label | apply W_skip | apply W_exit | apply W_ret); try simp only [seqK, blockK, scopeK, ↓reduceIte, Nat.reduceEqDiff])
    | (with_reducible apply pguard_intro <;> (intro hc; (try simp only [hcb, reduceCtorEq, forall_const, ne_eq] at hc); first | (exfalso; omega) | (exfalso; exact hc trivial) | refine Ev_in ?_))
    | (with_reducible apply W_cond_k; intro _ _ ea eb; (simp only [condK, cob, opnd, constPV, Nat.reduceEqDiff, Nat.reduceLT, ↓reduceIte, hcb, reduceCtorEq, forall_const, ne_eq]); subst ea eb; first | (refine ⟨fun hc => ?_, fun hc => ?_⟩ <;> first | (exfalso; omega) | (exfalso; exact hc trivial) | skip) | skip)
    | (with_reducible apply hnx; clear hnx nx)
    | (with_reducible refine And.intro (by omega) ?_)
    | (with_reducible refine And.intro ?_ ?_)
    | (clear hnx nx; with_reducible apply hnx; clear hnx nx)
    | (clear hnx nx; clear hnx nx; with_reducible apply hnx; clear hnx nx)
    | (clear hnx nx; clear hnx nx; clear hnx nx; with_reducible apply hnx; clear hnx nx))
    all_goals first | exact absurd trivial hc | contradiction | exact fun h => False.elim h | (exfalso; omega) | (exfalso; have hc := of_decide_eq_false hc; omega) | (exfalso; simp only [Bool.not_false, Bool.not_true, decide_eq_true_eq, decide_eq_false_iff_not] at *; omega) | skip
    refine W_loop_k (fun z τ => ∃ i : Nat, i ≤ xs.length ∧ z = xs.length - i ∧ (∀ x ∈ xs.take i, (findT (xs.map Prod.fst) x.2).isSome = true) ∧ τ = ⟨fr 130 [(108, pn i), (107, pint .i64 xs.length), (106, .row B 1 xs.length), (5, .row A 5 xs.length)], [(A, ⟨45, true, 5, flatL (upto xs i)⟩), (B, ⟨9, true, 1, secs xs⟩)]⟩) xs.length
      ⟨fr 130 [(108, pn 0), (107, pint .i64 xs.length), (106, .row B 1 xs.length), (5, .row A 5 xs.length)], [(A, ⟨45, true, 5, flatL (upto xs 0)⟩), (B, ⟨9, true, 1, secs xs⟩)]⟩ (by
      rw [upto_zero]
      refine Wk_fr (by simp only [wkb, Nat.reduceEqDiff, Nat.reduceLT, ↓reduceIte, pn]) ?_
      refine ⟨fun x hx => ?_, by simp [names, hAB]⟩
      simp only [List.mem_cons, List.not_mem_nil, or_false] at hx ⊢
      rcases hx with rfl | rfl
      · exact .inr rfl
      · exact .inl rfl) ⟨0, by omega, by omega, by simp, rfl⟩ ?_
    rintro z τ ⟨i, hi, rfl, hsome, rfl⟩ lp2 hlp2
    have hul := upto_len hi
    have hfl := flatL_len (upto xs i)
    rw [hul] at hfl
    have hlx : (secs xs).length = xs.length := List.length_map ..
    by_cases hil : i < xs.length
    · have hgb : (secs xs)[i]? = some (pstr xs[i].2) := by unfold secs; rw [List.getElem?_map, List.getElem?_eq_getElem hil]; rfl
      have cx := fun c : Int => indexFunc_c G (upto xs i) xs[i].2 A c (by omega)
      rw [hul] at cx
      cases hfk : findT (xs.map Prod.fst) xs[i].2 with
      | none =>
        have hid : idxT (upto xs i) xs[i].2 = -1 := by rw [idxT, findT_texts (upto_texts hi), hfk]
        rw [hid] at cx
        repeat' (first
    | (with_reducible apply W_seq_k; intro nx hnx)
    | (with_reducible first | apply W_block | apply W_scope)
    | (with_reducible refine W_prune 567907468902246771870523037057021 ?_; simp only [prb, Nat.reducePow, Nat.reduceDiv, Nat.reduceMod, Nat.reduceBEq]; with_reducible apply W_region_l)
    | ((first | (with_reducible apply WL_op; intro nx hnx) | with_reducible refine Ev_out ?_ | (with_reducible refine pfresh_k hnm fun nm hnm => ?_; (try simp only [fmb] at hnm)) | (with_reducible refine pborn_mu hnm fun nm hnm => ?_; (try simp only [fmb] at hnm)) | (with_reducible refine pmaybe_k ?_; intro bn hbn)); try (simp (maxSteps := 2000000) (disch := omega) only [evb, evd, pbuiltin, constPV, pnck, seqK, blockK, scopeK, pbin, pun, ppick, plen, piaddr, pindex, pfield, pslice, pbound, pconv, pelems, pextract, pmm, PV.mem?, PV.one, PV.cells, pageq, peqs, peq1, pmakes, pstore, pbytes, pmark, pusd, pust, psrc, pkey, pnile, pcap, pgrow, List.set, Value.cells, ↓popG_eq, ↓pop.eq_1, ↓List.getElem?_map, ↓List.getElem?_cons_zero, ↓List.getElem?_cons_succ, Value.oneCell', Nat.reduceAdd, Nat.reduceMul, Nat.reduceSub, Nat.reduceLeDiff, Nat.reduceEqDiff, ↓reduceIte, ne_eq, reduceCtorEq, forall_const, exists_and_left, exists_eq_left', eq_self, Nat.reduceLT, Int.reduceLT, Int.reduceLE, Int.reduceToNat, Int.reduceAdd, Int.reduceSub, Int.reduceNeg, hnm, Tryd.tf0, Tryd.tf1, Tryd.tf2, Tryd.tf3, Tryd.tf4, Tryd.tf9, Tryd.tf23, Tryd.tf26, Tryd.tf36, Tryd.tf45, Tryd.teq45, Tryd.tf56, Tryd.tf59, Tryd.tf64, Tryd.teq94, Tryd.teq104, Tryd.teq113, Tryd.teq114, Tryd.call37, Tryd.call38, Tryd.call39, Tryd.call40, Tryd.call42, hAB, hgb, hfl, hlx]); repeat (refine And.intro (by omega) ?_))
    | ((with_reducible first | apply WL_nil | apply W_label | apply W_skip | apply W_exit | apply W_ret); try simp only [seqK, blockK, scopeK, ↓reduceIte, Nat.reduceEqDiff])
    | (with_reducible apply pguard_intro <;> (intro hc; (try simp only [hcb, reduceCtorEq, forall_const, ne_eq] at hc); first | (exfalso; omega) | (exfalso; exact hc trivial) | refine Ev_in ?_))
    | (with_reducible apply W_cond_k; intro _ _ ea eb; (simp only [condK, cob, opnd, constPV, Nat.reduceEqDiff, Nat.reduceLT, ↓reduceIte, hcb, reduceCtorEq, forall_const, ne_eq]); subst ea eb; first | (refine ⟨fun hc => ?_, fun hc => ?_⟩ <;> first | (exfalso; omega) | (exfalso; exact hc trivial) | skip) | skip)
    | (with_reducible apply hnx; clear hnx nx)
    | (with_reducible refine And.intro (by omega) ?_)
    | (with_reducible refine And.intro ?_ ?_)
    | ((refine pcall_midn [] [_, _] [_] rfl (cx _) ?_; rintro _ _ ⟨rfl, rfl⟩ -; refine Ev_in ?_))
    | (clear hnx nx; with_reducible apply hnx; clear hnx nx)
    | (clear hnx nx; clear hnx nx; with_reducible apply hnx; clear hnx nx)
    | (clear hnx nx; clear hnx nx; clear hnx nx; with_reducible apply hnx; clear hnx nx))
        all_goals first | exact absurd trivial hc | contradiction | exact fun h => False.elim h | (exfalso; omega) | (exfalso; have hc := of_decide_eq_false hc; omega) | (exfalso; simp only [Bool.not_false, Bool.not_true, decide_eq_true_eq, decide_eq_false_iff_not] at *; omega) | skip
        all_goals
          refine hfin _ _ (Fin_ret3 rfl rfl rfl (Sub_nil _) ?_); simp only [List.getD_cons_zero, List.getD_cons_succ, fr_getD_cons, fr_getD_nil, Nat.reduceEqDiff, Nat.reduceLT, ↓reduceIte]
          rw [parseF_none hs hrd hil hfk hsome]
          exact ⟨pnil, rfl, .inl ⟨rfl, rfl, by trivial⟩⟩
      | some kk =>
        have hid : idxT (upto xs i) xs[i].2 = kk := by rw [idxT, findT_texts (upto_texts hi), hfk]
        rw [hid] at cx
        have hbase := flatL_base (l := upto xs i) (i := i) (by omega) kk
        rw [upto_step hil hfk (by omega)] at hbase
        repeat' (first
    | (with_reducible apply W_seq_k; intro nx hnx)
    | (with_reducible first | apply W_block | apply W_scope)
    | (with_reducible refine W_prune 567907468902246771870523037057021 ?_; simp only [prb, Nat.reducePow, Nat.reduceDiv, Nat.reduceMod, Nat.reduceBEq]; with_reducible apply W_region_l)
    | ((first | (with_reducible apply WL_op; intro nx hnx) | with_reducible refine Ev_out ?_ | (with_reducible refine pfresh_k hnm fun nm hnm => ?_; (try simp only [fmb] at hnm)) | (with_reducible refine pborn_mu hnm fun nm hnm => ?_; (try simp only [fmb] at hnm)) | (with_reducible refine pmaybe_k ?_; intro bn hbn)); try (simp (maxSteps := 2000000) (disch := omega) only [evb, evd, pbuiltin, constPV, pnck, seqK, blockK, scopeK, pbin, pun, ppick, plen, piaddr, pindex, pfield, pslice, pbound, pconv, pelems, pextract, pmm, PV.mem?, PV.one, PV.cells, pageq, peqs, peq1, pmakes, pstore, pbytes, pmark, pusd, pust, psrc, pkey, pnile, pcap, pgrow, List.set, Value.cells, ↓popG_eq, ↓pop.eq_1, ↓List.getElem?_map, ↓List.getElem?_cons_zero, ↓List.getElem?_cons_succ, Value.oneCell', Nat.reduceAdd, Nat.reduceMul, Nat.reduceSub, Nat.reduceLeDiff, Nat.reduceEqDiff, ↓reduceIte, ne_eq, reduceCtorEq, forall_const, exists_and_left, exists_eq_left', eq_self, Nat.reduceLT, Int.reduceLT, Int.reduceLE, Int.reduceToNat, Int.reduceAdd, Int.reduceSub, Int.reduceNeg, hnm, Tryd.tf0, Tryd.tf1, Tryd.tf2, Tryd.tf3, Tryd.tf4, Tryd.tf9, Tryd.tf23, Tryd.tf26, Tryd.tf36, Tryd.tf45, Tryd.teq45, Tryd.tf56, Tryd.tf59, Tryd.tf64, Tryd.teq94, Tryd.teq104, Tryd.teq113, Tryd.teq114, Tryd.call37, Tryd.call38, Tryd.call39, Tryd.call40, Tryd.call42, hAB, hgb, hfl, hlx, hbase]); repeat (refine And.intro (by omega) ?_))
    | ((with_reducible first | apply WL_nil | apply W_label | apply W_skip | apply W_exit | apply W_ret); try simp only [seqK, blockK, scopeK, ↓reduceIte, Nat.reduceEqDiff])
    | (with_reducible apply pguard_intro <;> (intro hc; (try simp only [hcb, reduceCtorEq, forall_const, ne_eq] at hc); first | (exfalso; omega) | (exfalso; exact hc trivial) | refine Ev_in ?_))
    | (with_reducible apply W_cond_k; intro _ _ ea eb; (simp only [condK, cob, opnd, constPV, Nat.reduceEqDiff, Nat.reduceLT, ↓reduceIte, hcb, reduceCtorEq, forall_const, ne_eq]); subst ea eb; first | (refine ⟨fun hc => ?_, fun hc => ?_⟩ <;> first | (exfalso; omega) | (exfalso; exact hc trivial) | skip) | skip)
    | (with_reducible apply hnx; clear hnx nx)
    | (with_reducible refine And.intro (by omega) ?_)
    | (with_reducible refine And.intro ?_ ?_)
    | ((refine pcall_midn [] [_, _] [_] rfl (cx _) ?_; rintro _ _ ⟨rfl, rfl⟩ -; refine Ev_in ?_))
    | (clear hnx nx; with_reducible apply hnx; clear hnx nx)
    | (clear hnx nx; clear hnx nx; with_reducible apply hnx; clear hnx nx)
    | (clear hnx nx; clear hnx nx; clear hnx nx; with_reducible apply hnx; clear hnx nx))
        all_goals first | exact absurd trivial hc | contradiction | exact fun h => False.elim h | (exfalso; omega) | (exfalso; have hc := of_decide_eq_false hc; omega) | (exfalso; simp only [Bool.not_false, Bool.not_true, decide_eq_true_eq, decide_eq_false_iff_not] at *; omega) | skip
        refine hlp2 _ (xs.length - (i + 1)) ⟨fr 130 [(108, pn (i + 1)), (107, pint .i64 xs.length), (106, .row B 1 xs.length), (5, .row A 5 xs.length)], [(A, ⟨45, true, 5, flatL (upto xs (i + 1))⟩), (B, ⟨9, true, 1, secs xs⟩)]⟩ (by omega) ?_ ⟨i + 1, by omega, rfl, ?_, rfl⟩
        · refine Wk_fr (by simp only [wkb, Nat.reduceEqDiff, Nat.reduceLT, ↓reduceIte, pn]) ?_
          exact ⟨fun x hx => List.mem_cons_of_mem _ hx, by simp [names, hAB]⟩
        · intro x hx
          rw [List.take_add_one, List.getElem?_eq_getElem hil, List.mem_append] at hx
          rcases hx with hx | hx
          · exact hsome x hx
          · simp only [Option.toList_some, List.mem_singleton] at hx
            rw [hx, hfk]
            rfl
    · have hi2 : i = xs.length := by omega
      subst hi2
      have cv := valid_c G (basedF xs) (based_HA (by omega) hsm)
      rw [List.take_length] at hsome
      have hok := parseF_ok hs hrd hsome
      rw [upto_full] at hfl
      rw [upto_full]
      repeat' (first
    | (with_reducible apply W_seq_k; intro nx hnx)
    | (with_reducible first | apply W_block | apply W_scope)
    | (with_reducible refine W_prune 567907468902246771870523037057021 ?_; simp only [prb, Nat.reducePow, Nat.reduceDiv, Nat.reduceMod, Nat.reduceBEq]; with_reducible apply W_region_l)
    | ((first | (with_reducible apply WL_op; intro nx hnx) | with_reducible refine Ev_out ?_ | (with_reducible refine pfresh_k hnm fun nm hnm => ?_; (try simp only [fmb] at hnm)) | (with_reducible refine pborn_mu hnm fun nm hnm => ?_; (try simp only [fmb] at hnm)) | (with_reducible refine pmaybe_k ?_; intro bn hbn)); try (simp (maxSteps := 2000000) (disch := omega) only [evb, evd, pbuiltin, constPV, pnck, seqK, blockK, scopeK, pbin, pun, ppick, plen, piaddr, pindex, pfield, pslice, pbound, pconv, pelems, pextract, pmm, PV.mem?, PV.one, PV.cells, pageq, peqs, peq1, pmakes, pstore, pbytes, pmark, pusd, pust, psrc, pkey, pnile, pcap, pgrow, List.set, Value.cells, ↓popG_eq, ↓pop.eq_1, ↓List.getElem?_map, ↓List.getElem?_cons_zero, ↓List.getElem?_cons_succ, Value.oneCell', Nat.reduceAdd, Nat.reduceMul, Nat.reduceSub, Nat.reduceLeDiff, Nat.reduceEqDiff, ↓reduceIte, ne_eq, reduceCtorEq, forall_const, exists_and_left, exists_eq_left', eq_self, Nat.reduceLT, Int.reduceLT, Int.reduceLE, Int.reduceToNat, Int.reduceAdd, Int.reduceSub, Int.reduceNeg, hnm, Tryd.tf0, Tryd.tf1, Tryd.tf2, Tryd.tf3, Tryd.tf4, Tryd.tf9, Tryd.tf23, Tryd.tf26, Tryd.tf36, Tryd.tf45, Tryd.teq45, Tryd.tf56, Tryd.tf59, Tryd.tf64, Tryd.teq94, Tryd.teq104, Tryd.teq113, Tryd.teq114, Tryd.call37, Tryd.call38, Tryd.call39, Tryd.call40, Tryd.call42, hAB, hfl]); repeat (refine And.intro (by omega) ?_))
    | ((with_reducible first | apply WL_nil | apply W_label | apply W_skip | apply W_exit | apply W_ret); try simp only [seqK, blockK, scopeK, ↓reduceIte, Nat.reduceEqDiff])
    | (with_reducible apply pguard_intro <;> (intro hc; (try simp only [hcb, reduceCtorEq, forall_const, ne_eq] at hc); first | (exfalso; omega) | (exfalso; exact hc trivial) | refine Ev_in ?_))
    | (with_reducible apply W_cond_k; intro _ _ ea eb; (simp only [condK, cob, opnd, constPV, Nat.reduceEqDiff, Nat.reduceLT, ↓reduceIte, hcb, reduceCtorEq, forall_const, ne_eq]); subst ea eb; first | (refine ⟨fun hc => ?_, fun hc => ?_⟩ <;> first | (exfalso; omega) | (exfalso; exact hc trivial) | skip) | skip)
    | (with_reducible apply hnx; clear hnx nx)
    | (with_reducible refine And.intro (by omega) ?_)
    | (with_reducible refine And.intro ?_ ?_)
    | ((refine pcall_lts (t := 45) (a := basedF xs) (by simp only [look, if_true]) (by rw [basedF_len]) cv ?_; refine Ev_in ?_))
    | (clear hnx nx; with_reducible apply hnx; clear hnx nx)
    | (clear hnx nx; clear hnx nx; with_reducible apply hnx; clear hnx nx)
    | (clear hnx nx; clear hnx nx; clear hnx nx; with_reducible apply hnx; clear hnx nx))
      all_goals first | exact absurd trivial hc | contradiction | exact fun h => False.elim h | (exfalso; omega) | (exfalso; have hc := of_decide_eq_false hc; omega) | (exfalso; simp only [Bool.not_false, Bool.not_true, decide_eq_true_eq, decide_eq_false_iff_not] at *; omega) | skip
      · rw [hc, if_neg (by simp)] at hok
        refine hfin _ _ (Fin_ret3 rfl rfl rfl (Sub_nil _) ?_); simp only [List.getD_cons_zero, List.getD_cons_succ, fr_getD_cons, fr_getD_nil, Nat.reduceEqDiff, Nat.reduceLT, ↓reduceIte]
        rw [hok]
        exact ⟨pnil, rfl, .inl ⟨rfl, rfl, by trivial⟩⟩
      · rw [hc, if_pos rfl] at hok
        refine hfin _ _ (Fin_ret3 rfl rfl rfl (H := [(A, ⟨45, true, 5, flatL (basedF xs)⟩)]) ⟨fun x hx => ?_, by simp [names]⟩ ?_)
        · simp only [List.mem_cons, List.not_mem_nil, or_false] at hx ⊢
          exact .inl hx
        · simp only [fr_getD_cons, Nat.reduceEqDiff, Nat.reduceLT, ↓reduceIte]
          rw [hok]
          exact ⟨.row A 5 xs.length, rfl, .inr ⟨A, by rw [basedF_len], rfl⟩⟩
  · have cc := cut_c G r 10 (by omega)
    have hst := splitF_step (c := 10) hr0
    have htl := cutF_le r 10
    obtain ⟨⟨t, r', e⟩, hcut⟩ : ∃ q, q = cutF r 10 := ⟨_, rfl⟩
    rw [← hcut] at cc hst htl
    simp only at cc hst htl
    have cs := split_c G t 32 (by omega)
    have hle := splitF_mem 32 t
    have hll : (flatL (xs.map Prod.fst)).length = xs.length * 5 := by rw [flatL_len, List.length_map]
    have hlx : (secs xs).length = xs.length := List.length_map ..
    have hsnoc2 : ∀ x : Ltr × List UInt8, secs (xs ++ [x]) = secs xs ++ [pstr x.2] := fun x => by simp [secs]
    have hsnoc1 : ∀ x : Ltr × List UInt8, flatL ((xs ++ [x]).map Prod.fst) = flatL (xs.map Prod.fst) ++ cellL x.1 := fun x => by
      rw [List.map_append]
      exact flatL_snoc _ _
    rcases hst with ⟨rfl, h1, h2, h3⟩ | ⟨rfl, h1⟩
    · by_cases h5 : (splitF 32 t).length = 5
      · obtain ⟨x, b, m, k, w, hsp⟩ := five h5
        have hln := lineF_five hsp
        rw [hsp] at cs hle
        have n1 := number_c G m (by have := hle m (by simp); omega)
        have n2 := number_c G k (by have := hle k (by simp); omega)
        have n3 := number_c G w (by have := hle w (by simp); omega)
        simp only [List.map_cons, List.map_nil] at cs
        repeat' (first
    | (with_reducible apply W_seq_k; intro nx hnx)
    | (with_reducible first | apply W_block | apply W_scope)
    | (with_reducible refine W_prune 567907468902246771870523037057021 ?_; simp only [prb, Nat.reducePow, Nat.reduceDiv, Nat.reduceMod, Nat.reduceBEq]; with_reducible apply W_region_l)
    | ((first | (with_reducible apply WL_op; intro nx hnx) | with_reducible refine Ev_out ?_ | (with_reducible refine pfresh_k hnm fun nm hnm => ?_; (try simp only [fmb] at hnm)) | (with_reducible refine pborn_mu hnm fun nm hnm => ?_; (try simp only [fmb] at hnm)) | (with_reducible refine pmaybe_k ?_; intro bn hbn)); try (simp (maxSteps := 2000000) (disch := omega) only [evb, evd, pbuiltin, constPV, pnck, seqK, blockK, scopeK, pbin, pun, ppick, plen, piaddr, pindex, pfield, pslice, pbound, pconv, pelems, pextract, pmm, PV.mem?, PV.one, PV.cells, pageq, peqs, peq1, pmakes, pstore, pbytes, pmark, pusd, pust, psrc, pkey, pnile, pcap, pgrow, List.set, Value.cells, ↓popG_eq, ↓pop.eq_1, ↓List.getElem?_map, ↓List.getElem?_cons_zero, ↓List.getElem?_cons_succ, Value.oneCell', Nat.reduceAdd, Nat.reduceMul, Nat.reduceSub, Nat.reduceLeDiff, Nat.reduceEqDiff, ↓reduceIte, ne_eq, reduceCtorEq, forall_const, exists_and_left, exists_eq_left', eq_self, Nat.reduceLT, Int.reduceLT, Int.reduceLE, Int.reduceToNat, Int.reduceAdd, Int.reduceSub, Int.reduceNeg, hnm, Tryd.tf0, Tryd.tf1, Tryd.tf2, Tryd.tf3, Tryd.tf4, Tryd.tf9, Tryd.tf23, Tryd.tf26, Tryd.tf36, Tryd.tf45, Tryd.teq45, Tryd.tf56, Tryd.tf59, Tryd.tf64, Tryd.teq94, Tryd.teq104, Tryd.teq113, Tryd.teq114, Tryd.call37, Tryd.call38, Tryd.call39, Tryd.call40, Tryd.call42, hAB, hr0, List.length_map, hll, hlx]); repeat (refine And.intro (by omega) ?_))
    | ((with_reducible first | apply WL_nil | apply W_label | apply W_skip | apply W_exit | apply W_ret); try simp only [seqK, blockK, scopeK, ↓reduceIte, Nat.reduceEqDiff])
    | (with_reducible apply pguard_intro <;> (intro hc; (try simp only [hcb, reduceCtorEq, forall_const, ne_eq] at hc); first | (exfalso; omega) | (exfalso; exact hc trivial) | refine Ev_in ?_))
    | (with_reducible apply W_cond_k; intro _ _ ea eb; (simp only [condK, cob, opnd, constPV, Nat.reduceEqDiff, Nat.reduceLT, ↓reduceIte, hcb, reduceCtorEq, forall_const, ne_eq]); subst ea eb; first | (refine ⟨fun hc => ?_, fun hc => ?_⟩ <;> first | (exfalso; omega) | (exfalso; exact hc trivial) | skip) | skip)
    | (with_reducible apply hnx; clear hnx nx)
    | (with_reducible refine And.intro (by omega) ?_)
    | (with_reducible refine And.intro ?_ ?_)
    | (with_reducible refine pcall_k (cc) ?_; rintro _ _ ⟨rfl, rfl⟩ -; refine Ev_in ?_)
    | (with_reducible refine pcall_k (cs) ?_; rintro _ _ ⟨rfl, rfl⟩ -; refine Ev_in ?_)
    | (with_reducible refine pcall_k (n1) ?_; rintro _ _ ⟨rfl, rfl⟩ -; refine Ev_in ?_)
    | (with_reducible refine pcall_k (n2) ?_; rintro _ _ ⟨rfl, rfl⟩ -; refine Ev_in ?_)
    | (with_reducible refine pcall_k (n3) ?_; rintro _ _ ⟨rfl, rfl⟩ -; refine Ev_in ?_)
    | (clear hnx nx; with_reducible apply hnx; clear hnx nx)
    | (clear hnx nx; clear hnx nx; with_reducible apply hnx; clear hnx nx)
    | (clear hnx nx; clear hnx nx; clear hnx nx; with_reducible apply hnx; clear hnx nx))
        all_goals first | exact absurd trivial hc | contradiction | exact fun h => False.elim h | (exfalso; omega) | (exfalso; have hc := of_decide_eq_false hc; omega) | (exfalso; simp only [Bool.not_false, Bool.not_true, decide_eq_true_eq, decide_eq_false_iff_not] at *; omega) | skip
        all_goals first
          | (have hn : lineF t = none := by
               rw [hln]
               simp_all
             rw [h1, readL_none splitF_ne hn, List.append_nil] at hrd
             refine hfin _ _ (Fin_ret3 rfl rfl rfl (Sub_nil _) ?_); simp only [List.getD_cons_zero, List.getD_cons_succ, fr_getD_cons, fr_getD_nil, Nat.reduceEqDiff, Nat.reduceLT, ↓reduceIte]
             rw [parseF_bad hs hrd]
             exact ⟨pnil, rfl, .inl ⟨rfl, rfl, by trivial⟩⟩)
          | skip
        have hn : lineF t = some (⟨x, 0, (numF m).1, (numF k).1, (numF w).1⟩, b) := by
          rw [hln]
          simp_all
        rename_i N0 g0 N1 g1 N2 g2
        rw [h1, readL_some splitF_ne hn, List.append_cons] at hrd
        refine hlp _ r'.length (parS s r' (xs ++ [(⟨x, 0, (numF m).1, (numF k).1, (numF w).1⟩, b)]) N1 nm) (by omega) ?_ ⟨r', _, N1, nm, by simp [hnm], rfl, by simp; omega, hrd, ?_, rfl⟩
        · rw [parS, hsnoc1, hsnoc2]
          refine Wk_fr (by simp only [wkb, Nat.reduceEqDiff, Nat.reduceLT, ↓reduceIte, pn, List.length_append, List.length_singleton]) ?_
          refine ⟨fun x hx => ?_, by simp [names, hnm]⟩
          simp only [List.mem_cons, List.not_mem_nil, or_false] at hx ⊢
          rcases hx with rfl | rfl
          · exact .inl rfl
          · exact .inr (.inr (.inl rfl))
        · intro y hy
          rw [List.mem_append, List.mem_singleton] at hy
          rcases hy with hy | rfl
          · exact hsm y hy
          · have := hle x (by simp)
            exact ⟨by simp only; omega, numF_bd m, numF_bd k, numF_bd w⟩
      · have hln := lineF_not h5
        rw [h1, readL_none splitF_ne hln, List.append_nil] at hrd
        repeat' (first
    | (with_reducible apply W_seq_k; intro nx hnx)
    | (with_reducible first | apply W_block | apply W_scope)
    | (with_reducible refine W_prune 567907468902246771870523037057021 ?_; simp only [prb, Nat.reducePow, Nat.reduceDiv, Nat.reduceMod, Nat.reduceBEq]; with_reducible apply W_region_l)
    | ((first | (with_reducible apply WL_op; intro nx hnx) | with_reducible refine Ev_out ?_ | (with_reducible refine pfresh_k hnm fun nm hnm => ?_; (try simp only [fmb] at hnm)) | (with_reducible refine pborn_mu hnm fun nm hnm => ?_; (try simp only [fmb] at hnm)) | (with_reducible refine pmaybe_k ?_; intro bn hbn)); try (simp (maxSteps := 2000000) (disch := omega) only [evb, evd, pbuiltin, constPV, pnck, seqK, blockK, scopeK, pbin, pun, ppick, plen, piaddr, pindex, pfield, pslice, pbound, pconv, pelems, pextract, pmm, PV.mem?, PV.one, PV.cells, pageq, peqs, peq1, pmakes, pstore, pbytes, pmark, pusd, pust, psrc, pkey, pnile, pcap, pgrow, List.set, Value.cells, ↓popG_eq, ↓pop.eq_1, ↓List.getElem?_map, ↓List.getElem?_cons_zero, ↓List.getElem?_cons_succ, Value.oneCell', Nat.reduceAdd, Nat.reduceMul, Nat.reduceSub, Nat.reduceLeDiff, Nat.reduceEqDiff, ↓reduceIte, ne_eq, reduceCtorEq, forall_const, exists_and_left, exists_eq_left', eq_self, Nat.reduceLT, Int.reduceLT, Int.reduceLE, Int.reduceToNat, Int.reduceAdd, Int.reduceSub, Int.reduceNeg, hnm, Tryd.tf0, Tryd.tf1, Tryd.tf2, Tryd.tf3, Tryd.tf4, Tryd.tf9, Tryd.tf23, Tryd.tf26, Tryd.tf36, Tryd.tf45, Tryd.teq45, Tryd.tf56, Tryd.tf59, Tryd.tf64, Tryd.teq94, Tryd.teq104, Tryd.teq113, Tryd.teq114, Tryd.call37, Tryd.call38, Tryd.call39, Tryd.call40, Tryd.call42, hAB, hr0, List.length_map]); repeat (refine And.intro (by omega) ?_))
    | ((with_reducible first | apply WL_nil | apply W_label | apply W_skip | apply W_exit | apply W_ret); try simp only [seqK, blockK, scopeK, ↓reduceIte, Nat.reduceEqDiff])
    | (with_reducible apply pguard_intro <;> (intro hc; (try simp only [hcb, reduceCtorEq, forall_const, ne_eq] at hc); first | (exfalso; omega) | (exfalso; exact hc trivial) | refine Ev_in ?_))
    | (with_reducible apply W_cond_k; intro _ _ ea eb; (simp only [condK, cob, opnd, constPV, Nat.reduceEqDiff, Nat.reduceLT, ↓reduceIte, hcb, reduceCtorEq, forall_const, ne_eq]); subst ea eb; first | (refine ⟨fun hc => ?_, fun hc => ?_⟩ <;> first | (exfalso; omega) | (exfalso; exact hc trivial) | skip) | skip)
    | (with_reducible apply hnx; clear hnx nx)
    | (with_reducible refine And.intro (by omega) ?_)
    | (with_reducible refine And.intro ?_ ?_)
    | (with_reducible refine pcall_k (cc) ?_; rintro _ _ ⟨rfl, rfl⟩ -; refine Ev_in ?_)
    | (with_reducible refine pcall_k (cs) ?_; rintro _ _ ⟨rfl, rfl⟩ -; refine Ev_in ?_)
    | (clear hnx nx; with_reducible apply hnx; clear hnx nx)
    | (clear hnx nx; clear hnx nx; with_reducible apply hnx; clear hnx nx)
    | (clear hnx nx; clear hnx nx; clear hnx nx; with_reducible apply hnx; clear hnx nx))
        all_goals first | exact absurd trivial hc | contradiction | exact fun h => False.elim h | (exfalso; omega) | (exfalso; have hc := of_decide_eq_false hc; omega) | (exfalso; simp only [Bool.not_false, Bool.not_true, decide_eq_true_eq, decide_eq_false_iff_not] at *; omega) | skip
        all_goals
          refine hfin _ _ (Fin_ret3 rfl rfl rfl (Sub_nil _) ?_); simp only [List.getD_cons_zero, List.getD_cons_succ, fr_getD_cons, fr_getD_nil, Nat.reduceEqDiff, Nat.reduceLT, ↓reduceIte]
          rw [parseF_bad hs hrd]
          exact ⟨pnil, rfl, .inl ⟨rfl, rfl, by trivial⟩⟩
    · have : (readL [r]) = ([], false) := by simp [readL, hr0]
      rw [h1, this, List.append_nil] at hrd
      repeat' (first
    | (with_reducible apply W_seq_k; intro nx hnx)
    | (with_reducible first | apply W_block | apply W_scope)
    | (with_reducible refine W_prune 567907468902246771870523037057021 ?_; simp only [prb, Nat.reducePow, Nat.reduceDiv, Nat.reduceMod, Nat.reduceBEq]; with_reducible apply W_region_l)
    | ((first | (with_reducible apply WL_op; intro nx hnx) | with_reducible refine Ev_out ?_ | (with_reducible refine pfresh_k hnm fun nm hnm => ?_; (try simp only [fmb] at hnm)) | (with_reducible refine pborn_mu hnm fun nm hnm => ?_; (try simp only [fmb] at hnm)) | (with_reducible refine pmaybe_k ?_; intro bn hbn)); try (simp (maxSteps := 2000000) (disch := omega) only [evb, evd, pbuiltin, constPV, pnck, seqK, blockK, scopeK, pbin, pun, ppick, plen, piaddr, pindex, pfield, pslice, pbound, pconv, pelems, pextract, pmm, PV.mem?, PV.one, PV.cells, pageq, peqs, peq1, pmakes, pstore, pbytes, pmark, pusd, pust, psrc, pkey, pnile, pcap, pgrow, List.set, Value.cells, ↓popG_eq, ↓pop.eq_1, ↓List.getElem?_map, ↓List.getElem?_cons_zero, ↓List.getElem?_cons_succ, Value.oneCell', Nat.reduceAdd, Nat.reduceMul, Nat.reduceSub, Nat.reduceLeDiff, Nat.reduceEqDiff, ↓reduceIte, ne_eq, reduceCtorEq, forall_const, exists_and_left, exists_eq_left', eq_self, Nat.reduceLT, Int.reduceLT, Int.reduceLE, Int.reduceToNat, Int.reduceAdd, Int.reduceSub, Int.reduceNeg, hnm, Tryd.tf0, Tryd.tf1, Tryd.tf2, Tryd.tf3, Tryd.tf4, Tryd.tf9, Tryd.tf23, Tryd.tf26, Tryd.tf36, Tryd.tf45, Tryd.teq45, Tryd.tf56, Tryd.tf59, Tryd.tf64, Tryd.teq94, Tryd.teq104, Tryd.teq113, Tryd.teq114, Tryd.call37, Tryd.call38, Tryd.call39, Tryd.call40, Tryd.call42, hAB, hr0, List.length_map]); repeat (refine And.intro (by omega) ?_))
    | ((with_reducible first | apply WL_nil | apply W_label | apply W_skip | apply W_exit | apply W_ret); try simp only [seqK, blockK, scopeK, ↓reduceIte, Nat.reduceEqDiff])
    | (with_reducible apply pguard_intro <;> (intro hc; (try simp only [hcb, reduceCtorEq, forall_const, ne_eq] at hc); first | (exfalso; omega) | (exfalso; exact hc trivial) | refine Ev_in ?_))
    | (with_reducible apply W_cond_k; intro _ _ ea eb; (simp only [condK, cob, opnd, constPV, Nat.reduceEqDiff, Nat.reduceLT, ↓reduceIte, hcb, reduceCtorEq, forall_const, ne_eq]); subst ea eb; first | (refine ⟨fun hc => ?_, fun hc => ?_⟩ <;> first | (exfalso; omega) | (exfalso; exact hc trivial) | skip) | skip)
    | (with_reducible apply hnx; clear hnx nx)
    | (with_reducible refine And.intro (by omega) ?_)
    | (with_reducible refine And.intro ?_ ?_)
    | (with_reducible refine pcall_k (cc) ?_; rintro _ _ ⟨rfl, rfl⟩ -; refine Ev_in ?_)
    | (with_reducible refine pcall_k (cs) ?_; rintro _ _ ⟨rfl, rfl⟩ -; refine Ev_in ?_)
    | (clear hnx nx; with_reducible apply hnx; clear hnx nx)
    | (clear hnx nx; clear hnx nx; with_reducible apply hnx; clear hnx nx)
    | (clear hnx nx; clear hnx nx; clear hnx nx; with_reducible apply hnx; clear hnx nx))
      all_goals first | exact absurd trivial hc | contradiction | exact fun h => False.elim h | (exfalso; omega) | (exfalso; have hc := of_decide_eq_false hc; omega) | (exfalso; simp only [Bool.not_false, Bool.not_true, decide_eq_true_eq, decide_eq_false_iff_not] at *; omega) | skip
      all_goals
        refine hfin _ _ (Fin_ret3 rfl rfl rfl (Sub_nil _) ?_); simp only [List.getD_cons_zero, List.getD_cons_succ, fr_getD_cons, fr_getD_nil, Nat.reduceEqDiff, Nat.reduceLT, ↓reduceIte]
        rw [parseF_bad hs hrd]
        exact ⟨pnil, rfl, .inl ⟨rfl, rfl, by trivial⟩⟩
theorem Px.nil3 {G : Globs} (es : Nat) (q r : PV) (H : Heap) : Px G (.tuple [pnil, q, r]) H (.tuple [.list es [], q, r]) H := fun _ _ A _ w v hs hr => by
  refine ⟨A, hs, ?_⟩
  cases hr with
  | tuple cs f h2 =>
    refine .tuple [.list es [], q, r] f fun j u hu => ?_
    match j with
    | 0 =>
      cases hu
      exact nil_list es (h2 0 pnil rfl)
    | j + 1 => exact h2 (j + 1) u hu
/-- A result of three parts, the first of which is letters in a row. -/
theorem CRL.frz3 {G : Globs} {f : FuncId} {args : List PV} {b : List Ltr} {j k : Int} (h : PCalls Tryd.prog G f args [] (fun res H => ∃ o, res = .tuple [o, pint .i64 j, pint .i64 k] ∧ CRL b o H)) : PCalls Tryd.prog G f args [] (fun res H => res = .tuple [ltsP b, pint .i64 j, pint .i64 k] ∧ H = []) := by
  refine h.px fun res H hR => ?_
  obtain ⟨o, rfl, hR⟩ := hR
  rcases hR with ⟨rfl, rfl, rfl⟩ | ⟨N, rfl, rfl⟩
  · exact ⟨_, _, Px.nil3 5 _ _ _, rfl, rfl⟩
  · have h2 := Px.freeze (G := G) (.tuple [.row N 5 b.length, pint .i64 j, pint .i64 k]) [(N, ⟨45, true, 5, flatL b⟩)] N (o := ⟨45, true, 5, flatL b⟩) (by simp only [look, if_true]) (by simp [frzOk, del])
    refine ⟨_, _, h2, ?_, by simp [frzH, del]⟩
    have := frz_lts N b
    simp only [PM.frz] at this
    simp only [PM.frz, List.map_cons, List.map_nil, this]
    simp only [frz1]
theorem parse_f (G : Globs) (s : List UInt8) : PCalls Tryd.prog G 19 [pstr s] [] (fun res H => res = .tuple [ltsP (parseF s).1, pint .i64 (parseF s).2.1, pint .i64 (parseF s).2.2] ∧ H = []) := CRL.frz3 (parse_c G s)
end Go.PM

namespace Go.PM
open Go.Proofs
attribute [local irreducible] W PCalls pcall pcallI WL
set_option maxRecDepth 100000
set_option maxHeartbeats 8000000
def exA : List Ltr := [⟨[99], 0, 0, 0, 5⟩, ⟨[104], 1, 0, 0, 6⟩, ⟨[99, 104], 2, 0, 0, 9⟩]
theorem ex_HA : HA exA := ⟨by decide, by decide⟩
theorem ex_r1 : readF exA [99, 104, 99] = ([2, 0], -1) := by decide +kernel
theorem ex_r2 : readF exA [99, 104, 45, 99] = ([2], 2) := by decide +kernel
theorem ex_w : writeF exA [0, 1] = ([99, 104], 0) := by decide +kernel
theorem ex_s1 : safeF exA [0, 1] = false := by decide +kernel
theorem ex_s2 : safeF exA [2] = true := by decide +kernel
theorem ex_p : parseF [97, 32, 97, 32, 48, 32, 48, 32, 53, 10, 65, 32, 97, 32, 48, 32, 49, 32, 54, 10] = ([⟨[97], 0, 0, 0, 5⟩, ⟨[65], 0, 0, 1, 6⟩], 0, 0) := by decide +kernel
theorem lives_c (G : Globs) : PCalls Tryd.prog G 15 [] [] (fun res H => res = pbool true ∧ H = []) := by
  have c1 := read_f G exA [99, 104, 99] ex_HA (by decide)
  have c2 := read_f G exA [99, 104, 45, 99] ex_HA (by decide)
  have c3 := write_c G exA [0, 1] ex_HA (by decide)
  have c4 := parse_f G [97, 32, 97, 32, 48, 32, 48, 32, 53, 10, 65, 32, 97, 32, 48, 32, 49, 32, 54, 10]
  have c5 := sameInts_c G [2, 0] [2, 0] (by decide)
  have c6 := sameInts_c G [2] [2] (by decide)
  have c7 := safe_c G exA [0, 1] ex_HA (by decide)
  have c8 := safe_c G exA [2] ex_HA (by decide)
  rw [ex_r1] at c1
  rw [ex_r2] at c2
  rw [ex_w] at c3
  rw [ex_p] at c4
  rw [ex_s1] at c7
  rw [ex_s2] at c8
  have c1 : PCalls Tryd.prog G 12 [.list 5 [.agg [.val (.string ⟨#[99]⟩), .val (.int .i64 0), .val (.int .i64 0), .val (.int .i64 0), .val (.int .i64 5)], .agg [.val (.string ⟨#[104]⟩), .val (.int .i64 1), .val (.int .i64 0), .val (.int .i64 0), .val (.int .i64 6)], .agg [.val (.string ⟨#[99, 104]⟩), .val (.int .i64 2), .val (.int .i64 0), .val (.int .i64 0), .val (.int .i64 9)]], .val (.string ⟨#[99, 104, 99]⟩)] [] _ := c1
  have c2 : PCalls Tryd.prog G 12 [.list 5 [.agg [.val (.string ⟨#[99]⟩), .val (.int .i64 0), .val (.int .i64 0), .val (.int .i64 0), .val (.int .i64 5)], .agg [.val (.string ⟨#[104]⟩), .val (.int .i64 1), .val (.int .i64 0), .val (.int .i64 0), .val (.int .i64 6)], .agg [.val (.string ⟨#[99, 104]⟩), .val (.int .i64 2), .val (.int .i64 0), .val (.int .i64 0), .val (.int .i64 9)]], .val (.string ⟨#[99, 104, 45, 99]⟩)] [] _ := c2
  have c3 : PCalls Tryd.prog G 22 [.list 5 [.agg [.val (.string ⟨#[99]⟩), .val (.int .i64 0), .val (.int .i64 0), .val (.int .i64 0), .val (.int .i64 5)], .agg [.val (.string ⟨#[104]⟩), .val (.int .i64 1), .val (.int .i64 0), .val (.int .i64 0), .val (.int .i64 6)], .agg [.val (.string ⟨#[99, 104]⟩), .val (.int .i64 2), .val (.int .i64 0), .val (.int .i64 0), .val (.int .i64 9)]], .list 1 [.val (.int .i64 0), .val (.int .i64 1)]] [] _ := c3
  have c4 : PCalls Tryd.prog G 19 [.val (.string ⟨#[97, 32, 97, 32, 48, 32, 48, 32, 53, 10, 65, 32, 97, 32, 48, 32, 49, 32, 54, 10]⟩)] [] _ := c4
  have c7 : PCalls Tryd.prog G 25 [.list 5 [.agg [.val (.string ⟨#[99]⟩), .val (.int .i64 0), .val (.int .i64 0), .val (.int .i64 0), .val (.int .i64 5)], .agg [.val (.string ⟨#[104]⟩), .val (.int .i64 1), .val (.int .i64 0), .val (.int .i64 0), .val (.int .i64 6)], .agg [.val (.string ⟨#[99, 104]⟩), .val (.int .i64 2), .val (.int .i64 0), .val (.int .i64 0), .val (.int .i64 9)]], .list 1 [.val (.int .i64 0), .val (.int .i64 1)]] [] _ := c7
  have c8 : PCalls Tryd.prog G 25 [.list 5 [.agg [.val (.string ⟨#[99]⟩), .val (.int .i64 0), .val (.int .i64 0), .val (.int .i64 0), .val (.int .i64 5)], .agg [.val (.string ⟨#[104]⟩), .val (.int .i64 1), .val (.int .i64 0), .val (.int .i64 0), .val (.int .i64 6)], .agg [.val (.string ⟨#[99, 104]⟩), .val (.int .i64 2), .val (.int .i64 0), .val (.int .i64 0), .val (.int .i64 9)]], .list 1 [.val (.int .i64 2)]] [] _ := c8
  have c5 : PCalls Tryd.prog G 14 [wP [2, 0], .list 1 [.val (.int .i64 2), .val (.int .i64 0)]] [] _ := c5
  have c6 : PCalls Tryd.prog G 14 [wP [2], .list 1 [.val (.int .i64 2)]] [] _ := c6
  (refine PCalls_f Tryd.func15 rfl Tryd.ntmps15 Tryd.results15 (by simp) fun fin hfin => ?_; have hnm : True := trivial; simp (maxSteps := 2000000) (disch := omega) only [evb, evd, pbuiltin, constPV, pnck, seqK, blockK, scopeK, pbin, pun, ppick, plen, piaddr, pindex, pfield, pslice, pbound, pconv, pelems, pextract, pmm, PV.mem?, PV.one, PV.cells, pageq, peqs, peq1, pmakes, pstore, pbytes, pmark, pusd, pust, psrc, pkey, pnile, pcap, pgrow, List.set, Value.cells, ↓popG_eq, ↓pop.eq_1, ↓List.getElem?_map, ↓List.getElem?_cons_zero, ↓List.getElem?_cons_succ, Value.oneCell', Nat.reduceAdd, Nat.reduceMul, Nat.reduceSub, Nat.reduceLeDiff, Nat.reduceEqDiff, ↓reduceIte, ne_eq, reduceCtorEq, forall_const, exists_and_left, exists_eq_left', eq_self, Nat.reduceLT, Int.reduceLT, Int.reduceLE, Int.reduceToNat, Int.reduceAdd, Int.reduceSub, Int.reduceNeg, hnm, Tryd.tf0, Tryd.tf1, Tryd.tf2, Tryd.tf3, Tryd.tf4, Tryd.tf9, Tryd.tf22, Tryd.tf23, Tryd.tf28, Tryd.tf36, Tryd.tf37, Tryd.tf42, Tryd.tf45, Tryd.teq45, Tryd.teq94, Tryd.teq104, Tryd.teq113, Tryd.teq114, Tryd.call12, Tryd.call14, Tryd.call19, Tryd.call22, Tryd.call25])
  repeat' (first
    | (with_reducible apply W_seq_k; intro nx hnx)
    | (with_reducible first | apply W_block | apply W_scope)
    | (with_reducible refine W_prune 2047 ?_; simp only [prb, Nat.reducePow, Nat.reduceDiv, Nat.reduceMod, Nat.reduceBEq]; with_reducible apply W_region_l)
    | (with_reducible refine WL_born (by simp) rfl (by simp) ?_; simp only [elemsOf, nl, List.map_cons, List.map_nil, Nat.reduceEqDiff, ↓reduceIte, List.take_succ_cons, List.take_zero, List.range_succ, List.range_zero, List.nil_append, List.cons_append, List.map_append, List.drop_succ_cons, List.drop_zero, Nat.reduceMul, Nat.zero_mul, Nat.one_mul, Nat.reduceAdd])
    | (with_reducible refine WL_bornH (by simp) (by simp) ?_ ?_ ?_; (· simp [frz, frz1, hnm]); (· simp [frz1, hnm, PV.one, Value.oneCell']); simp only [elemsOf, nl, List.map_cons, List.map_nil, Nat.reduceEqDiff, ↓reduceIte, List.take_succ_cons, List.take_zero, List.range_succ, List.range_zero, List.nil_append, List.cons_append, List.map_append, List.drop_succ_cons, List.drop_zero, Nat.reduceMul, Nat.zero_mul, Nat.one_mul, Nat.reduceAdd])
    | ((first | (with_reducible apply WL_op; intro nx hnx) | with_reducible refine Ev_out ?_ | (with_reducible refine pfresh_k hnm fun nm hnm => ?_; (try simp only [fmb] at hnm)) | (with_reducible refine pborn_im ?_; simp only [elemsOf, nl, List.map_cons, List.map_nil, Nat.reduceEqDiff, ↓reduceIte, List.take_succ_cons, List.take_zero, List.range_succ, List.range_zero, List.nil_append, List.cons_append, List.map_append, List.drop_succ_cons, List.drop_zero, Nat.reduceMul, Nat.zero_mul, Nat.one_mul, Nat.reduceAdd])); try (simp (maxSteps := 2000000) (disch := omega) only [evb, evd, pbuiltin, constPV, pnck, seqK, blockK, scopeK, pbin, pun, ppick, plen, piaddr, pindex, pfield, pslice, pbound, pconv, pelems, pextract, pmm, PV.mem?, PV.one, PV.cells, pageq, peqs, peq1, pmakes, pstore, pbytes, pmark, pusd, pust, psrc, pkey, pnile, pcap, pgrow, List.set, Value.cells, ↓popG_eq, ↓pop.eq_1, ↓List.getElem?_map, ↓List.getElem?_cons_zero, ↓List.getElem?_cons_succ, Value.oneCell', Nat.reduceAdd, Nat.reduceMul, Nat.reduceSub, Nat.reduceLeDiff, Nat.reduceEqDiff, ↓reduceIte, ne_eq, reduceCtorEq, forall_const, exists_and_left, exists_eq_left', eq_self, Nat.reduceLT, Int.reduceLT, Int.reduceLE, Int.reduceToNat, Int.reduceAdd, Int.reduceSub, Int.reduceNeg, hnm, Tryd.tf0, Tryd.tf1, Tryd.tf2, Tryd.tf3, Tryd.tf4, Tryd.tf9, Tryd.tf22, Tryd.tf23, Tryd.tf28, Tryd.tf36, Tryd.tf37, Tryd.tf42, Tryd.tf45, Tryd.teq45, Tryd.teq94, Tryd.teq104, Tryd.teq113, Tryd.teq114, Tryd.call12, Tryd.call14, Tryd.call19, Tryd.call22, Tryd.call25]); repeat (refine And.intro (by omega) ?_))
    | ((with_reducible first | apply WL_nil | apply W_label | apply W_skip | apply W_exit | apply W_ret); try simp only [seqK, blockK, scopeK, ↓reduceIte, Nat.reduceEqDiff])
    | (with_reducible apply pguard_intro <;> (intro hc; (try simp only [hcb, reduceCtorEq, forall_const, ne_eq] at hc); first | (exfalso; omega) | (exfalso; exact hc trivial) | refine Ev_in ?_))
    | (with_reducible apply W_cond_k; intro _ _ ea eb; (simp only [condK, cob, opnd, constPV, Nat.reduceEqDiff, Nat.reduceLT, ↓reduceIte, hcb, reduceCtorEq, forall_const, ne_eq]); subst ea eb; first | (refine ⟨fun hc => ?_, fun hc => ?_⟩ <;> first | (exfalso; omega) | (exfalso; exact hc trivial) | skip) | skip)
    | (with_reducible apply hnx; clear hnx nx)
    | (with_reducible refine And.intro (by omega) ?_)
    | (with_reducible refine And.intro ?_ ?_)
    | (with_reducible refine pcall_k (c1) ?_; rintro _ _ ⟨rfl, rfl⟩ -; refine Ev_in ?_)
    | (with_reducible refine pcall_k (c2) ?_; rintro _ _ ⟨rfl, rfl⟩ -; refine Ev_in ?_)
    | (with_reducible refine pcall_k (c3) ?_; rintro _ _ ⟨rfl, rfl⟩ -; refine Ev_in ?_)
    | (with_reducible refine pcall_k (c4) ?_; rintro _ _ ⟨rfl, rfl⟩ -; refine Ev_in ?_)
    | (with_reducible refine pcall_k (c5) ?_; rintro _ _ ⟨rfl, rfl⟩ -; refine Ev_in ?_)
    | (with_reducible refine pcall_k (c6) ?_; rintro _ _ ⟨rfl, rfl⟩ -; refine Ev_in ?_)
    | (with_reducible refine pcall_k (c7) ?_; rintro _ _ ⟨rfl, rfl⟩ -; refine Ev_in ?_)
    | (with_reducible refine pcall_k (c8) ?_; rintro _ _ ⟨rfl, rfl⟩ -; refine Ev_in ?_)
    | (clear hnx nx; with_reducible apply hnx; clear hnx nx)
    | (clear hnx nx; clear hnx nx; with_reducible apply hnx; clear hnx nx)
    | (clear hnx nx; clear hnx nx; clear hnx nx; with_reducible apply hnx; clear hnx nx))
  all_goals first | exact absurd trivial hc | contradiction | exact fun h => False.elim h | (exfalso; omega) | (exfalso; have hc := of_decide_eq_false hc; omega) | (exfalso; simp only [Bool.not_false, Bool.not_true, decide_eq_true_eq, decide_eq_false_iff_not] at *; omega) | skip
  all_goals
    refine hfin _ _ (Fin_ret1 rfl (Sub_nil _) ?_); simp only [List.getD_cons_zero, List.getD_cons_succ, fr_getD_cons, fr_getD_nil, Nat.reduceEqDiff, Nat.reduceLT, ↓reduceIte]
    exact ⟨rfl, by trivial⟩
end Go.PM

namespace Go.PM
open Go.Proofs
attribute [local irreducible] W PCalls pcall pcallI WL
set_option maxRecDepth 100000
set_option maxHeartbeats 8000000
/-- The word that l makes. -/
def wordF (n : Nat) (l : List Int) : List Int := (l.take 12).map fun x => arF x n
theorem word_r (G : Globs) (a : List Ltr) (l : List Int) (ha : a.length ≤ 1000) (ha1 : 1 ≤ a.length) (hl : okI l) : PCalls Tryd.prog G 23 [ltsP a, wP l] [] (CRI (wordF a.length l)) := by
  have hl1 := hl.1
  (refine PCalls_f Tryd.func23 rfl Tryd.ntmps23 Tryd.results23 (by simp) fun fin hfin => ?_; have hnm : True := trivial; simp (maxSteps := 2000000) (disch := omega) only [evb, evd, pbuiltin, constPV, pnck, seqK, blockK, scopeK, pbin, pun, ppick, plen, piaddr, pindex, pfield, pslice, pbound, pconv, pelems, pextract, pmm, PV.mem?, PV.one, PV.cells, pageq, peqs, peq1, pmakes, pstore, pbytes, pmark, pusd, pust, psrc, pkey, pnile, pcap, pgrow, List.set, Value.cells, ↓popG_eq, ↓pop.eq_1, ↓List.getElem?_map, ↓List.getElem?_cons_zero, ↓List.getElem?_cons_succ, Value.oneCell', Nat.reduceAdd, Nat.reduceMul, Nat.reduceSub, Nat.reduceLeDiff, Nat.reduceEqDiff, ↓reduceIte, ne_eq, reduceCtorEq, forall_const, exists_and_left, exists_eq_left', eq_self, Nat.reduceLT, Int.reduceLT, Int.reduceLE, Int.reduceToNat, Int.reduceAdd, Int.reduceSub, Int.reduceNeg, hnm, Tryd.tf0, Tryd.tf1, Tryd.tf3, Tryd.tf4, Tryd.tf22, Tryd.tf23, Tryd.tf45, Tryd.teq45, Tryd.teq94, Tryd.teq104, Tryd.teq113, Tryd.teq114, Tryd.call32])
  repeat' (first
    | (with_reducible apply W_seq_k; intro nx hnx)
    | (with_reducible first | apply W_block | apply W_scope)
    | (with_reducible refine W_prune 115 ?_; simp only [prb, Nat.reducePow, Nat.reduceDiv, Nat.reduceMod, Nat.reduceBEq]; with_reducible apply W_region_l)
    | ((first | (with_reducible apply WL_op; intro nx hnx) | with_reducible refine Ev_out ?_ | (with_reducible refine pfresh_k hnm fun nm hnm => ?_; (try simp only [fmb] at hnm)) | (with_reducible refine pborn_mu hnm fun nm hnm => ?_; (try simp only [fmb] at hnm))); try (simp (maxSteps := 2000000) (disch := omega) only [evb, evd, pbuiltin, constPV, pnck, seqK, blockK, scopeK, pbin, pun, ppick, plen, piaddr, pindex, pfield, pslice, pbound, pconv, pelems, pextract, pmm, PV.mem?, PV.one, PV.cells, pageq, peqs, peq1, pmakes, pstore, pbytes, pmark, pusd, pust, psrc, pkey, pnile, pcap, pgrow, List.set, Value.cells, ↓popG_eq, ↓pop.eq_1, ↓List.getElem?_map, ↓List.getElem?_cons_zero, ↓List.getElem?_cons_succ, Value.oneCell', Nat.reduceAdd, Nat.reduceMul, Nat.reduceSub, Nat.reduceLeDiff, Nat.reduceEqDiff, ↓reduceIte, ne_eq, reduceCtorEq, forall_const, exists_and_left, exists_eq_left', eq_self, Nat.reduceLT, Int.reduceLT, Int.reduceLE, Int.reduceToNat, Int.reduceAdd, Int.reduceSub, Int.reduceNeg, hnm, Tryd.tf0, Tryd.tf1, Tryd.tf3, Tryd.tf4, Tryd.tf22, Tryd.tf23, Tryd.tf45, Tryd.teq45, Tryd.teq94, Tryd.teq104, Tryd.teq113, Tryd.teq114, Tryd.call32]); repeat (refine And.intro (by omega) ?_))
    | ((with_reducible first | apply WL_nil | apply W_label | apply W_skip | apply W_exit | apply W_ret); try simp only [seqK, blockK, scopeK, ↓reduceIte, Nat.reduceEqDiff])
    | (with_reducible apply pguard_intro <;> (intro hc; (try simp only [hcb, reduceCtorEq, forall_const, ne_eq] at hc); first | (exfalso; omega) | (exfalso; exact hc trivial) | refine Ev_in ?_))
    | (with_reducible apply W_cond_k; intro _ _ ea eb; (simp only [condK, cob, opnd, constPV, Nat.reduceEqDiff, Nat.reduceLT, ↓reduceIte, hcb, reduceCtorEq, forall_const, ne_eq]); subst ea eb; first | (refine ⟨fun hc => ?_, fun hc => ?_⟩ <;> first | (exfalso; omega) | (exfalso; exact hc trivial) | skip) | skip)
    | (with_reducible apply hnx; clear hnx nx)
    | (with_reducible refine And.intro (by omega) ?_)
    | (with_reducible refine And.intro ?_ ?_)
    | (clear hnx nx; with_reducible apply hnx; clear hnx nx)
    | (clear hnx nx; clear hnx nx; with_reducible apply hnx; clear hnx nx)
    | (clear hnx nx; clear hnx nx; clear hnx nx; with_reducible apply hnx; clear hnx nx))
  refine W_loop_k (fun z τ => ∃ (i : Nat) (o : PV) (HO : Heap), i ≤ l.length ∧ i ≤ 12 ∧ z = 12 - i ∧ CRI ((l.take i).map fun x => arF x a.length) o HO ∧ τ = ⟨fr 28 [(6, pn i), (5, o), (1, wP l), (0, ltsP a)], HO⟩) 12
    ⟨fr 28 [(6, pn 0), (5, pnil), (1, wP l), (0, ltsP a)], []⟩ (by
    exact Wk_fr (by simp only [wkb, Nat.reduceEqDiff, Nat.reduceLT, ↓reduceIte, pn]) (Sub_nil _)) ⟨0, _, _, by omega, by omega, by omega, .inl ⟨rfl, rfl, rfl⟩, rfl⟩ ?_
  rintro z τ ⟨i, o, HO, hi, hi12, rfl, hC, rfl⟩ lp hlp
  refine W_nd fun nd => ?_
  by_cases hil : i < l.length ∧ i < 12
  · obtain ⟨hil, hil2⟩ := hil
    have hgw : l[i]? = some l[i] := List.getElem?_eq_getElem hil
    have hsn : (l.take (i + 1)).map (fun x => arF x a.length) = (l.take i).map (fun x => arF x a.length) ++ [arF l[i] a.length] := by rw [List.take_add_one, hgw, List.map_append]; rfl
    have cr := around_c G l[i] a.length (by omega) (hl.2 _ (List.getElem_mem hil)) (by omega)
    have hul : ((l.take i).map (fun x => arF x a.length)).length ≤ 12 := by rw [List.length_map, List.length_take]; omega
    generalize arF l[i] a.length = y at *
    generalize (l.take i).map (fun x => arF x a.length) = u at *
    rcases hC with ⟨hu0, rfl, rfl⟩ | ⟨n, rfl, rfl⟩
    · subst hu0
      repeat' (first
    | (with_reducible apply W_seq_k; intro nx hnx)
    | (with_reducible first | apply W_block | apply W_scope)
    | (with_reducible refine W_prune 115 ?_; simp only [prb, Nat.reducePow, Nat.reduceDiv, Nat.reduceMod, Nat.reduceBEq]; with_reducible apply W_region_l)
    | ((first | (with_reducible apply WL_op; intro nx hnx) | with_reducible refine Ev_out ?_ | (with_reducible refine pfresh_k hnm fun nm hnm => ?_; (try simp only [fmb] at hnm)) | (with_reducible refine pborn_mu hnm fun nm hnm => ?_; (try simp only [fmb] at hnm))); try (simp (maxSteps := 2000000) (disch := omega) only [evb, evd, pbuiltin, constPV, pnck, seqK, blockK, scopeK, pbin, pun, ppick, plen, piaddr, pindex, pfield, pslice, pbound, pconv, pelems, pextract, pmm, PV.mem?, PV.one, PV.cells, pageq, peqs, peq1, pmakes, pstore, pbytes, pmark, pusd, pust, psrc, pkey, pnile, pcap, pgrow, List.set, Value.cells, ↓popG_eq, ↓pop.eq_1, ↓List.getElem?_map, ↓List.getElem?_cons_zero, ↓List.getElem?_cons_succ, Value.oneCell', Nat.reduceAdd, Nat.reduceMul, Nat.reduceSub, Nat.reduceLeDiff, Nat.reduceEqDiff, ↓reduceIte, ne_eq, reduceCtorEq, forall_const, exists_and_left, exists_eq_left', eq_self, Nat.reduceLT, Int.reduceLT, Int.reduceLE, Int.reduceToNat, Int.reduceAdd, Int.reduceSub, Int.reduceNeg, hnm, Tryd.tf0, Tryd.tf1, Tryd.tf3, Tryd.tf4, Tryd.tf22, Tryd.tf23, Tryd.tf45, Tryd.teq45, Tryd.teq94, Tryd.teq104, Tryd.teq113, Tryd.teq114, Tryd.call32, hgw]); repeat (refine And.intro (by omega) ?_))
    | ((with_reducible first | apply WL_nil | apply W_label | apply W_skip | apply W_exit | apply W_ret); try simp only [seqK, blockK, scopeK, ↓reduceIte, Nat.reduceEqDiff])
    | (with_reducible apply pguard_intro <;> (intro hc; (try simp only [hcb, reduceCtorEq, forall_const, ne_eq] at hc); first | (exfalso; omega) | (exfalso; exact hc trivial) | refine Ev_in ?_))
    | (with_reducible apply W_cond_k; intro _ _ ea eb; (simp only [condK, cob, opnd, constPV, Nat.reduceEqDiff, Nat.reduceLT, ↓reduceIte, hcb, reduceCtorEq, forall_const, ne_eq]); subst ea eb; first | (refine ⟨fun hc => ?_, fun hc => ?_⟩ <;> first | (exfalso; omega) | (exfalso; exact hc trivial) | skip) | skip)
    | (with_reducible apply hnx; clear hnx nx)
    | (with_reducible refine And.intro (by omega) ?_)
    | (with_reducible refine And.intro ?_ ?_)
    | (with_reducible refine pcall_k (cr) ?_; rintro _ _ ⟨rfl, rfl⟩ -; refine Ev_in ?_)
    | (clear hnx nx; with_reducible apply hnx; clear hnx nx)
    | (clear hnx nx; clear hnx nx; with_reducible apply hnx; clear hnx nx)
    | (clear hnx nx; clear hnx nx; clear hnx nx; with_reducible apply hnx; clear hnx nx))
      all_goals first | exact absurd trivial hc | contradiction | exact fun h => False.elim h | (exfalso; omega) | (exfalso; have hc := of_decide_eq_false hc; omega) | (exfalso; simp only [Bool.not_false, Bool.not_true, decide_eq_true_eq, decide_eq_false_iff_not] at *; omega) | skip
      all_goals
        refine hlp _ (12 - (i + 1)) ⟨fr 28 [(6, pn (i + 1)), (5, .row nm 1 1), (1, wP l), (0, ltsP a)], [(nm, ⟨3, true, 1, [pint .i64 y]⟩)]⟩ (by omega) ?_ ⟨i + 1, _, _, by omega, by omega, rfl, by rw [hsn]; exact .inr ⟨nm, rfl, rfl⟩, rfl⟩
        refine Wk_fr (by simp only [wkb, Nat.reduceEqDiff, Nat.reduceLT, ↓reduceIte, pn]) ?_
        all_goals
          refine ⟨fun x hx => ?_, by simp [names, hnm]⟩
          simp only [List.mem_cons, List.not_mem_nil, or_false] at hx ⊢
          first
            | exact hx
            | exact .inl hx
    · repeat' (first
    | (with_reducible apply W_seq_k; intro nx hnx)
    | (with_reducible first | apply W_block | apply W_scope)
    | (with_reducible refine W_prune 115 ?_; simp only [prb, Nat.reducePow, Nat.reduceDiv, Nat.reduceMod, Nat.reduceBEq]; with_reducible apply W_region_l)
    | ((first | (with_reducible apply WL_op; intro nx hnx) | with_reducible refine Ev_out ?_ | (with_reducible refine pfresh_k hnm fun nm hnm => ?_; (try simp only [fmb] at hnm)) | (with_reducible refine pborn_mu hnm fun nm hnm => ?_; (try simp only [fmb] at hnm))); try (simp (maxSteps := 2000000) (disch := omega) only [evb, evd, pbuiltin, constPV, pnck, seqK, blockK, scopeK, pbin, pun, ppick, plen, piaddr, pindex, pfield, pslice, pbound, pconv, pelems, pextract, pmm, PV.mem?, PV.one, PV.cells, pageq, peqs, peq1, pmakes, pstore, pbytes, pmark, pusd, pust, psrc, pkey, pnile, pcap, pgrow, List.set, Value.cells, ↓popG_eq, ↓pop.eq_1, ↓List.getElem?_map, ↓List.getElem?_cons_zero, ↓List.getElem?_cons_succ, Value.oneCell', Nat.reduceAdd, Nat.reduceMul, Nat.reduceSub, Nat.reduceLeDiff, Nat.reduceEqDiff, ↓reduceIte, ne_eq, reduceCtorEq, forall_const, exists_and_left, exists_eq_left', eq_self, Nat.reduceLT, Int.reduceLT, Int.reduceLE, Int.reduceToNat, Int.reduceAdd, Int.reduceSub, Int.reduceNeg, hnm, Tryd.tf0, Tryd.tf1, Tryd.tf3, Tryd.tf4, Tryd.tf22, Tryd.tf23, Tryd.tf45, Tryd.teq45, Tryd.teq94, Tryd.teq104, Tryd.teq113, Tryd.teq114, Tryd.call32, hgw]); repeat (refine And.intro (by omega) ?_))
    | ((with_reducible first | apply WL_nil | apply W_label | apply W_skip | apply W_exit | apply W_ret); try simp only [seqK, blockK, scopeK, ↓reduceIte, Nat.reduceEqDiff])
    | (with_reducible apply pguard_intro <;> (intro hc; (try simp only [hcb, reduceCtorEq, forall_const, ne_eq] at hc); first | (exfalso; omega) | (exfalso; exact hc trivial) | refine Ev_in ?_))
    | (with_reducible apply W_cond_k; intro _ _ ea eb; (simp only [condK, cob, opnd, constPV, Nat.reduceEqDiff, Nat.reduceLT, ↓reduceIte, hcb, reduceCtorEq, forall_const, ne_eq]); subst ea eb; first | (refine ⟨fun hc => ?_, fun hc => ?_⟩ <;> first | (exfalso; omega) | (exfalso; exact hc trivial) | skip) | skip)
    | (with_reducible apply hnx; clear hnx nx)
    | (with_reducible refine And.intro (by omega) ?_)
    | (with_reducible refine And.intro ?_ ?_)
    | (with_reducible refine pcall_k (cr) ?_; rintro _ _ ⟨rfl, rfl⟩ -; refine Ev_in ?_)
    | (clear hnx nx; with_reducible apply hnx; clear hnx nx)
    | (clear hnx nx; clear hnx nx; with_reducible apply hnx; clear hnx nx)
    | (clear hnx nx; clear hnx nx; clear hnx nx; with_reducible apply hnx; clear hnx nx))
      all_goals first | exact absurd trivial hc | contradiction | exact fun h => False.elim h | (exfalso; omega) | (exfalso; have hc := of_decide_eq_false hc; omega) | (exfalso; simp only [Bool.not_false, Bool.not_true, decide_eq_true_eq, decide_eq_false_iff_not] at *; omega) | skip
      all_goals
        have hl1 : (u ++ [y]).length = u.length + 1 := by simp
        refine hlp _ (12 - (i + 1)) ⟨fr 28 [(6, pn (i + 1)), (5, .row nm 1 (u ++ [y]).length), (1, wP l), (0, ltsP a)], [(nm, ⟨3, true, 1, (u ++ [y]).map (pint .i64)⟩)]⟩ (by omega) ?_ ⟨i + 1, _, _, by omega, by omega, rfl, by rw [hsn]; exact .inr ⟨nm, rfl, rfl⟩, rfl⟩
        refine Wk_fr (by simp only [wkb, Nat.reduceEqDiff, Nat.reduceLT, ↓reduceIte, pn, hl1]) ?_
        all_goals
          (try rw [List.map_append])
          refine ⟨fun x hx => ?_, by simp [names, hnm]⟩
          simp only [List.mem_cons, List.not_mem_nil, or_false] at hx ⊢
          first
            | exact hx
            | exact .inl hx
  · have he : l.take i = l.take 12 := by
      by_cases h : i < l.length
      · have : i = 12 := by omega
        rw [this]
      · rw [List.take_of_length_le (by omega), List.take_of_length_le (by omega)]
    rw [he] at hC
    repeat' (first
    | (with_reducible apply W_seq_k; intro nx hnx)
    | (with_reducible first | apply W_block | apply W_scope)
    | (with_reducible refine W_prune 115 ?_; simp only [prb, Nat.reducePow, Nat.reduceDiv, Nat.reduceMod, Nat.reduceBEq]; with_reducible apply W_region_l)
    | ((first | (with_reducible apply WL_op; intro nx hnx) | with_reducible refine Ev_out ?_ | (with_reducible refine pfresh_k hnm fun nm hnm => ?_; (try simp only [fmb] at hnm)) | (with_reducible refine pborn_mu hnm fun nm hnm => ?_; (try simp only [fmb] at hnm))); try (simp (maxSteps := 2000000) (disch := omega) only [evb, evd, pbuiltin, constPV, pnck, seqK, blockK, scopeK, pbin, pun, ppick, plen, piaddr, pindex, pfield, pslice, pbound, pconv, pelems, pextract, pmm, PV.mem?, PV.one, PV.cells, pageq, peqs, peq1, pmakes, pstore, pbytes, pmark, pusd, pust, psrc, pkey, pnile, pcap, pgrow, List.set, Value.cells, ↓popG_eq, ↓pop.eq_1, ↓List.getElem?_map, ↓List.getElem?_cons_zero, ↓List.getElem?_cons_succ, Value.oneCell', Nat.reduceAdd, Nat.reduceMul, Nat.reduceSub, Nat.reduceLeDiff, Nat.reduceEqDiff, ↓reduceIte, ne_eq, reduceCtorEq, forall_const, exists_and_left, exists_eq_left', eq_self, Nat.reduceLT, Int.reduceLT, Int.reduceLE, Int.reduceToNat, Int.reduceAdd, Int.reduceSub, Int.reduceNeg, hnm, Tryd.tf0, Tryd.tf1, Tryd.tf3, Tryd.tf4, Tryd.tf22, Tryd.tf23, Tryd.tf45, Tryd.teq45, Tryd.teq94, Tryd.teq104, Tryd.teq113, Tryd.teq114, Tryd.call32]); repeat (refine And.intro (by omega) ?_))
    | ((with_reducible first | apply WL_nil | apply W_label | apply W_skip | apply W_exit | apply W_ret); try simp only [seqK, blockK, scopeK, ↓reduceIte, Nat.reduceEqDiff])
    | (with_reducible apply pguard_intro <;> (intro hc; (try simp only [hcb, reduceCtorEq, forall_const, ne_eq] at hc); first | (exfalso; omega) | (exfalso; exact hc trivial) | refine Ev_in ?_))
    | (with_reducible apply W_cond_k; intro _ _ ea eb; (simp only [condK, cob, opnd, constPV, Nat.reduceEqDiff, Nat.reduceLT, ↓reduceIte, hcb, reduceCtorEq, forall_const, ne_eq]); subst ea eb; first | (refine ⟨fun hc => ?_, fun hc => ?_⟩ <;> first | (exfalso; omega) | (exfalso; exact hc trivial) | skip) | skip)
    | (with_reducible apply hnx; clear hnx nx)
    | (with_reducible refine And.intro (by omega) ?_)
    | (with_reducible refine And.intro ?_ ?_)
    | (clear hnx nx; with_reducible apply hnx; clear hnx nx)
    | (clear hnx nx; clear hnx nx; with_reducible apply hnx; clear hnx nx)
    | (clear hnx nx; clear hnx nx; clear hnx nx; with_reducible apply hnx; clear hnx nx))
    all_goals first | exact absurd trivial hc | contradiction | exact fun h => False.elim h | (exfalso; omega) | (exfalso; have hc := of_decide_eq_false hc; omega) | (exfalso; simp only [Bool.not_false, Bool.not_true, decide_eq_true_eq, decide_eq_false_iff_not] at *; omega) | skip
    all_goals
      refine hfin _ _ (Fin_ret1 rfl (Sub_refl nd) ?_)
      simp only [fr_getD_cons, Nat.reduceEqDiff, Nat.reduceLT, ↓reduceIte]
      exact hC
theorem word_c (G : Globs) (a : List Ltr) (l : List Int) (ha : a.length ≤ 1000) (ha1 : 1 ≤ a.length) (hl : okI l) : PCalls Tryd.prog G 23 [ltsP a, wP l] [] (fun res H => res = wP (wordF a.length l) ∧ H = []) := CRI.frz (word_r G a l ha ha1 hl)
end Go.PM
