/- Joined texts (Nn Nt No Nq Nu Nv Nw): the machine, the contracts, the laws. Conditions: none but those that each names. -/
import Derived.Test.YtmnfkfikhcjeaaaJe
set_option linter.unusedSimpArgs false
set_option linter.unusedVariables false
namespace Go.PM
open Go.Proofs
attribute [local irreducible] W PCalls pcall pcallI WL
set_option maxRecDepth 100000 in
set_option maxHeartbeats 8000000 in
theorem rout_r (G : Globs) (e w m : Int) (s : RE) (hs1 : s.sent.length ≤ 1000000) (hs2 : s.acked ≤ s.sent.length) (hs3 : s.got ≤ 2000000000) (hwin : s.win ≤ 1000) (hW : ∀ b ∈ s.sent, b.length ≤ 65536) :
    PCalls Try.prog G 14 [.ptr e 0] (refO e w m s) (fun res H => ∃ n : Int, (¬ n = e ∧ ¬ n = w ∧ ¬ n = m) ∧ res = .row n 1 (outL (toL s)).1.length ∧ H = (n, ⟨33, true, 1, (outL (toL s)).1.map pl⟩) :: refO e w m { s with owing := false }) := by
  refine PCalls.nd fun nd => ?_
  have hM := ref_nd nd
  have hd : (s.sent.drop s.acked).length = s.sent.length - s.acked := List.length_drop
  obtain ⟨k, hk⟩ : ∃ k, k = min (s.sent.drop s.acked).length s.win := ⟨_, rfl⟩
  have hX : outL (toL s) = (if k = 0 ∧ s.owing = true then [sealP s.key 0 s.got []] else (List.range k).map (pktL (toL s)), { toL s with owing := false }) := by rw [outL, outP, ← hk]
  rw [hX]
  clear hX
  obtain ⟨pk, hpk⟩ : ∃ pk, pk = pktL (toL s) := ⟨_, rfl⟩
  rw [← hpk]
  (refine PCalls_f Try.func14 rfl Try.ntmps14 Try.results14 (by simp) fun fin hfin => ?_; have hnm : True := trivial; simp (maxSteps := 2000000) (disch := omega) only [evb, evd, pbuiltin, constPV, pnck, seqK, blockK, scopeK, pbin, pun, ppick, plen, piaddr, pindex, pfield, pslice, pbound, pconv, pelems, pextract, pmm, PV.mem?, PV.one, PV.cells, pageq, peqs, peq1, pmakes, pstore, pbytes, pmark, psrc, pkey, pnile, pcap, pgrow, List.set, Value.cells, ↓popG_eq, ↓pop.eq_1, ↓List.getElem?_map, ↓List.getElem?_cons_zero, ↓List.getElem?_cons_succ, Value.oneCell', Nat.reduceAdd, Nat.reduceMul, Nat.reduceSub, Nat.reduceLeDiff, Nat.reduceEqDiff, ↓reduceIte, ne_eq, reduceCtorEq, forall_const, exists_and_left, exists_eq_left', eq_self, Nat.reduceLT, Int.reduceLT, Int.reduceLE, Int.reduceToNat, Int.reduceAdd, Int.reduceSub, Int.reduceNeg, hnm, Try.tf0, Try.tf1, Try.tf2, Try.tf3, Try.tf4, Try.tf5, Try.tf6, Try.tf22, Try.tf26, Try.tf28, Try.tf31, Try.tf33, Try.tf43, Try.teq79, Try.call17, Try.call18])
  with_reducible apply W_seq_k
  intro nx hnx
  repeat' (first
    | (with_reducible first | apply W_block | apply W_scope)
    | (with_reducible refine W_prune 29 ?_; simp only [prb, Nat.reducePow, Nat.reduceDiv, Nat.reduceMod, Nat.reduceBEq]; first | (with_reducible apply W_region_l) | with_reducible refine W_region_draw (id := 3) 1 (.op 0 true (.op 1 true (.op 2 true (.op 3 true (.op 4 true (.op 5 true (.op 6 true (.op 7 true (.op 8 true (.op 9 true (.op 10 true (.op 11 true (.op 12 true (.op 13 true (.op 14 true (.op 15 true (.op 16 true (.op 17 true (.op 18 true (.op 19 true (.done))))))))))))))))))))) (by kernel_rfl) ?_ | with_reducible refine W_region_draw (id := 5) 8 (.op 0 true (.op 1 true (.op 2 true (.op 3 true (.op 4 true (.op 5 true (.op 6 true (.op 7 true (.op 8 true (.op 9 true (.op 10 true (.op 11 true (.op 12 true (.op 13 true (.op 14 true (.op 15 true (.op 16 true (.op 17 true (.op 18 true (.op 19 true (.op 20 false (.op 21 false (.op 22 false (.op 23 true (.done))))))))))))))))))))))))) (by kernel_rfl) ?_ | with_reducible refine W_region_draw (id := 7) 6 (.op 0 true (.op 1 true (.op 2 true (.op 3 true (.op 4 true (.op 5 true (.op 6 true (.op 7 true (.op 8 true (.op 9 true (.op 10 true (.op 11 false (.op 12 false (.op 13 false (.op 14 true (.done)))))))))))))))) (by kernel_rfl) ?_)
    | ((first | (with_reducible apply WL_op; intro nx hnx) | with_reducible refine Ev_out ?_ | (with_reducible apply popsD_op; intro nx hnx) | (with_reducible refine popsD_alt ?_ ?_; intro nx hnx) | (with_reducible refine pfresh_k hnm fun nm hnm => ?_; (try simp only [fmb] at hnm)) | (with_reducible refine pborn_mu hnm fun nm hnm => ?_; (try simp only [fmb] at hnm)) | (with_reducible refine pmaybe_k ?_; intro bn hbn)); try (simp (maxSteps := 2000000) (disch := omega) only [evb, evd, pbuiltin, constPV, pnck, seqK, blockK, scopeK, pbin, pun, ppick, plen, piaddr, pindex, pfield, pslice, pbound, pconv, pelems, pextract, pmm, PV.mem?, PV.one, PV.cells, pageq, peqs, peq1, pmakes, pstore, pbytes, pmark, psrc, pkey, pnile, pcap, pgrow, List.set, Value.cells, ↓popG_eq, ↓pop.eq_1, ↓List.getElem?_map, ↓List.getElem?_cons_zero, ↓List.getElem?_cons_succ, Value.oneCell', Nat.reduceAdd, Nat.reduceMul, Nat.reduceSub, Nat.reduceLeDiff, Nat.reduceEqDiff, ↓reduceIte, ne_eq, reduceCtorEq, forall_const, exists_and_left, exists_eq_left', eq_self, Nat.reduceLT, Int.reduceLT, Int.reduceLE, Int.reduceToNat, Int.reduceAdd, Int.reduceSub, Int.reduceNeg, hnm, Try.tf0, Try.tf1, Try.tf2, Try.tf3, Try.tf4, Try.tf5, Try.tf6, Try.tf22, Try.tf26, Try.tf28, Try.tf31, Try.tf33, Try.tf43, Try.teq79, Try.call17, Try.call18]); repeat (refine And.intro (by omega) ?_))
    | ((with_reducible first | apply WL_nil | apply W_label | apply W_skip | apply W_exit | apply W_ret | apply popsD_done); try simp only [seqK, blockK, scopeK, ↓reduceIte, Nat.reduceEqDiff])
    | with_reducible exact popsD_stop
    | (with_reducible apply pguard_intro <;> (intro hc; (try simp only [hcb, reduceCtorEq, forall_const, ne_eq] at hc); first | (exfalso; omega) | (exfalso; exact hc trivial) | refine Ev_in ?_))
    | (with_reducible apply W_cond_k; intro _ _ ea eb; (simp only [condK, cob, opnd, constPV, Nat.reduceEqDiff, Nat.reduceLT, ↓reduceIte, hcb, reduceCtorEq, forall_const, ne_eq]); subst ea eb; first | (refine ⟨fun hc => ?_, fun hc => ?_⟩ <;> first | (exfalso; omega) | (exfalso; exact hc trivial) | skip) | skip)
    | (with_reducible apply hnx; clear hnx nx)
    | (with_reducible refine And.intro (by omega) ?_)
    | (with_reducible refine And.intro ?_ ?_)
    | (clear hnx nx; with_reducible apply hnx; clear hnx nx)
    | (clear hnx nx; clear hnx nx; with_reducible apply hnx; clear hnx nx)
    | (clear hnx nx; clear hnx nx; clear hnx nx; with_reducible apply hnx; clear hnx nx))
  with_reducible apply W_seq_k
  intro nx hnx
  repeat' (first
    | (with_reducible first | apply W_block | apply W_scope)
    | (with_reducible refine W_prune 29 ?_; simp only [prb, Nat.reducePow, Nat.reduceDiv, Nat.reduceMod, Nat.reduceBEq]; first | (with_reducible apply W_region_l) | with_reducible refine W_region_draw (id := 3) 1 (.op 0 true (.op 1 true (.op 2 true (.op 3 true (.op 4 true (.op 5 true (.op 6 true (.op 7 true (.op 8 true (.op 9 true (.op 10 true (.op 11 true (.op 12 true (.op 13 true (.op 14 true (.op 15 true (.op 16 true (.op 17 true (.op 18 true (.op 19 true (.done))))))))))))))))))))) (by kernel_rfl) ?_ | with_reducible refine W_region_draw (id := 5) 8 (.op 0 true (.op 1 true (.op 2 true (.op 3 true (.op 4 true (.op 5 true (.op 6 true (.op 7 true (.op 8 true (.op 9 true (.op 10 true (.op 11 true (.op 12 true (.op 13 true (.op 14 true (.op 15 true (.op 16 true (.op 17 true (.op 18 true (.op 19 true (.op 20 false (.op 21 false (.op 22 false (.op 23 true (.done))))))))))))))))))))))))) (by kernel_rfl) ?_ | with_reducible refine W_region_draw (id := 7) 6 (.op 0 true (.op 1 true (.op 2 true (.op 3 true (.op 4 true (.op 5 true (.op 6 true (.op 7 true (.op 8 true (.op 9 true (.op 10 true (.op 11 false (.op 12 false (.op 13 false (.op 14 true (.done)))))))))))))))) (by kernel_rfl) ?_)
    | ((first | (with_reducible apply WL_op; intro nx hnx) | with_reducible refine Ev_out ?_ | (with_reducible apply popsD_op; intro nx hnx) | (with_reducible refine popsD_alt ?_ ?_; intro nx hnx) | (with_reducible refine pfresh_k hnm fun nm hnm => ?_; (try simp only [fmb] at hnm)) | (with_reducible refine pborn_mu hnm fun nm hnm => ?_; (try simp only [fmb] at hnm)) | (with_reducible refine pmaybe_k ?_; intro bn hbn)); try (simp (maxSteps := 2000000) (disch := omega) only [evb, evd, pbuiltin, constPV, pnck, seqK, blockK, scopeK, pbin, pun, ppick, plen, piaddr, pindex, pfield, pslice, pbound, pconv, pelems, pextract, pmm, PV.mem?, PV.one, PV.cells, pageq, peqs, peq1, pmakes, pstore, pbytes, pmark, psrc, pkey, pnile, pcap, pgrow, List.set, Value.cells, ↓popG_eq, ↓pop.eq_1, ↓List.getElem?_map, ↓List.getElem?_cons_zero, ↓List.getElem?_cons_succ, Value.oneCell', Nat.reduceAdd, Nat.reduceMul, Nat.reduceSub, Nat.reduceLeDiff, Nat.reduceEqDiff, ↓reduceIte, ne_eq, reduceCtorEq, forall_const, exists_and_left, exists_eq_left', eq_self, Nat.reduceLT, Int.reduceLT, Int.reduceLE, Int.reduceToNat, Int.reduceAdd, Int.reduceSub, Int.reduceNeg, hnm, Try.tf0, Try.tf1, Try.tf2, Try.tf3, Try.tf4, Try.tf5, Try.tf6, Try.tf22, Try.tf26, Try.tf28, Try.tf31, Try.tf33, Try.tf43, Try.teq79, Try.call17, Try.call18]); repeat (refine And.intro (by omega) ?_))
    | ((with_reducible first | apply WL_nil | apply W_label | apply W_skip | apply W_exit | apply W_ret | apply popsD_done); try simp only [seqK, blockK, scopeK, ↓reduceIte, Nat.reduceEqDiff])
    | with_reducible exact popsD_stop
    | (with_reducible apply pguard_intro <;> (intro hc; (try simp only [hcb, reduceCtorEq, forall_const, ne_eq] at hc); first | (exfalso; omega) | (exfalso; exact hc trivial) | refine Ev_in ?_))
    | (with_reducible apply W_cond_k; intro _ _ ea eb; (simp only [condK, cob, opnd, constPV, Nat.reduceEqDiff, Nat.reduceLT, ↓reduceIte, hcb, reduceCtorEq, forall_const, ne_eq]); subst ea eb; first | (refine ⟨fun hc => ?_, fun hc => ?_⟩ <;> first | (exfalso; omega) | (exfalso; exact hc trivial) | skip) | skip)
    | (with_reducible apply hnx; clear hnx nx)
    | (with_reducible refine And.intro (by omega) ?_)
    | (with_reducible refine And.intro ?_ ?_)
    | (clear hnx nx; with_reducible apply hnx; clear hnx nx)
    | (clear hnx nx; clear hnx nx; with_reducible apply hnx; clear hnx nx)
    | (clear hnx nx; clear hnx nx; clear hnx nx; with_reducible apply hnx; clear hnx nx))
  refine W_adopt_f 3 33 1 (by simp only [fr_getD_cons, Nat.reduceEqDiff, Nat.reduceLT, ↓reduceIte]) fun nm0 hnm0 => ?_
  have hn0 : ¬ nm0 = e ∧ ¬ nm0 = w ∧ ¬ nm0 = m := by simpa [names] using hnm0
  repeat' (first
    | (with_reducible apply W_seq_k; intro nx hnx)
    | (with_reducible first | apply W_block | apply W_scope)
    | (with_reducible refine W_prune 29 ?_; simp only [prb, Nat.reducePow, Nat.reduceDiv, Nat.reduceMod, Nat.reduceBEq]; first | (with_reducible apply W_region_l) | with_reducible refine W_region_draw (id := 3) 1 (.op 0 true (.op 1 true (.op 2 true (.op 3 true (.op 4 true (.op 5 true (.op 6 true (.op 7 true (.op 8 true (.op 9 true (.op 10 true (.op 11 true (.op 12 true (.op 13 true (.op 14 true (.op 15 true (.op 16 true (.op 17 true (.op 18 true (.op 19 true (.done))))))))))))))))))))) (by kernel_rfl) ?_ | with_reducible refine W_region_draw (id := 5) 8 (.op 0 true (.op 1 true (.op 2 true (.op 3 true (.op 4 true (.op 5 true (.op 6 true (.op 7 true (.op 8 true (.op 9 true (.op 10 true (.op 11 true (.op 12 true (.op 13 true (.op 14 true (.op 15 true (.op 16 true (.op 17 true (.op 18 true (.op 19 true (.op 20 false (.op 21 false (.op 22 false (.op 23 true (.done))))))))))))))))))))))))) (by kernel_rfl) ?_ | with_reducible refine W_region_draw (id := 7) 6 (.op 0 true (.op 1 true (.op 2 true (.op 3 true (.op 4 true (.op 5 true (.op 6 true (.op 7 true (.op 8 true (.op 9 true (.op 10 true (.op 11 false (.op 12 false (.op 13 false (.op 14 true (.done)))))))))))))))) (by kernel_rfl) ?_)
    | ((first | (with_reducible apply WL_op; intro nx hnx) | with_reducible refine Ev_out ?_ | (with_reducible apply popsD_op; intro nx hnx) | (with_reducible refine popsD_alt ?_ ?_; intro nx hnx) | (with_reducible refine pfresh_k hnm fun nm hnm => ?_; (try simp only [fmb] at hnm)) | (with_reducible refine pborn_mu hnm fun nm hnm => ?_; (try simp only [fmb] at hnm)) | (with_reducible refine pmaybe_k ?_; intro bn hbn)); try (simp (maxSteps := 2000000) (disch := omega) only [evb, evd, pbuiltin, constPV, pnck, seqK, blockK, scopeK, pbin, pun, ppick, plen, piaddr, pindex, pfield, pslice, pbound, pconv, pelems, pextract, pmm, PV.mem?, PV.one, PV.cells, pageq, peqs, peq1, pmakes, pstore, pbytes, pmark, psrc, pkey, pnile, pcap, pgrow, List.set, Value.cells, ↓popG_eq, ↓pop.eq_1, ↓List.getElem?_map, ↓List.getElem?_cons_zero, ↓List.getElem?_cons_succ, Value.oneCell', Nat.reduceAdd, Nat.reduceMul, Nat.reduceSub, Nat.reduceLeDiff, Nat.reduceEqDiff, ↓reduceIte, ne_eq, reduceCtorEq, forall_const, exists_and_left, exists_eq_left', eq_self, Nat.reduceLT, Int.reduceLT, Int.reduceLE, Int.reduceToNat, Int.reduceAdd, Int.reduceSub, Int.reduceNeg, hnm, Try.tf0, Try.tf1, Try.tf2, Try.tf3, Try.tf4, Try.tf5, Try.tf6, Try.tf22, Try.tf26, Try.tf28, Try.tf31, Try.tf33, Try.tf43, Try.teq79, Try.call17, Try.call18, hM, hn0]); repeat (refine And.intro (by omega) ?_))
    | ((with_reducible first | apply WL_nil | apply W_label | apply W_skip | apply W_exit | apply W_ret | apply popsD_done); try simp only [seqK, blockK, scopeK, ↓reduceIte, Nat.reduceEqDiff])
    | with_reducible exact popsD_stop
    | (with_reducible apply pguard_intro <;> (intro hc; (try simp only [hcb, reduceCtorEq, forall_const, ne_eq] at hc); first | (exfalso; omega) | (exfalso; exact hc trivial) | refine Ev_in ?_))
    | (with_reducible apply W_cond_k; intro _ _ ea eb; (simp only [condK, cob, opnd, constPV, Nat.reduceEqDiff, Nat.reduceLT, ↓reduceIte, hcb, reduceCtorEq, forall_const, ne_eq]); subst ea eb; first | (refine ⟨fun hc => ?_, fun hc => ?_⟩ <;> first | (exfalso; omega) | (exfalso; exact hc trivial) | skip) | skip)
    | (with_reducible apply hnx; clear hnx nx)
    | (with_reducible refine And.intro (by omega) ?_)
    | (with_reducible refine And.intro ?_ ?_)
    | (clear hnx nx; with_reducible apply hnx; clear hnx nx)
    | (clear hnx nx; clear hnx nx; with_reducible apply hnx; clear hnx nx)
    | (clear hnx nx; clear hnx nx; clear hnx nx; with_reducible apply hnx; clear hnx nx))
  all_goals first
    | (exfalso
       omega)
    | skip
  refine W_loop_k (fun z τ => ∃ (n : Int) (i : Nat), i ≤ k ∧ z = k - i ∧ τ = ⟨fr 81 [(0, .ptr e 0), (3, .row n 1 ((List.range i).map pk).length), (4, pint .i64 (s.acked + i : Nat))], (n, ⟨33, true, 1, ((List.range i).map pk).map pl⟩) :: refO e w m s⟩) k
    ⟨fr 81 [(0, .ptr e 0), (3, .row nm0 1 ((List.range 0).map pk).length), (4, pint .i64 (s.acked + 0 : Nat))], (nm0, ⟨33, true, 1, ((List.range 0).map pk).map pl⟩) :: refO e w m s⟩ (by
    refine Wk_fr (by simp only [wkb, Nat.reduceEqDiff, Nat.reduceLT, ↓reduceIte, List.length_nil, List.range_zero, List.map_nil, Nat.add_zero]) ?_
    exact Sub_refl (by simp [names, hM, hn0])) ⟨nm0, 0, by omega, by omega, rfl⟩ ?_
  clear hnm0 hn0
  rintro z τ ⟨n, i, hi, rfl, rfl⟩ lp hlp
  refine W_nd fun nd2 => ?_
  have hN0 : ¬ n = e ∧ ¬ n = w ∧ ¬ n = m := by
    simp only [names, List.map_cons, List.map_nil, List.nodup_cons, List.mem_cons, List.not_mem_nil, or_false, not_or] at nd2
    exact nd2.1
  have hN : (n = e) = False ∧ (n = w) = False ∧ (n = m) = False := ⟨eq_false hN0.1, eq_false hN0.2.1, eq_false hN0.2.2⟩
  have hN2 : (e = n) = False ∧ (w = n) = False ∧ (m = n) = False := ⟨eq_false fun h => hN0.1 h.symm, eq_false fun h => hN0.2.1 h.symm, eq_false fun h => hN0.2.2 h.symm⟩
  clear nd2
  by_cases hik : i < k
  · obtain ⟨acc, hacc⟩ : ∃ acc, acc = (List.range i).map pk := ⟨_, rfl⟩
    have hal : acc.length = i := by rw [hacc]; simp
    have hi2 : s.acked + i < s.sent.length := by omega
    obtain ⟨b, hb⟩ : ∃ b, b = s.sent[s.acked + i] := ⟨_, rfl⟩
    have hget : s.sent[s.acked + i]? = some b := by rw [List.getElem?_eq_getElem hi2, hb]
    have hbl : b.length ≤ 65536 := by rw [hb]; exact hW _ (List.getElem_mem hi2)
    have hq1 : inR ((s.acked + i + 1 : Nat) : Int) := ⟨by omega, by omega⟩
    have hq2 : inR (s.got : Int) := ⟨by omega, by omega⟩
    have c1 := rbytesP_c G ((s.acked + i + 1 : Nat) : Int) s.got b hq1 hq2 (by omega)
    have hpl := packB_len ((s.acked + i + 1 : Nat) : Int) s.got b hq1 hq2 (by omega)
    have c2 := rseal_c G s.key (packB ((s.acked + i + 1 : Nat) : Int) s.got b) (by omega)
    have hP : packB ((s.acked + i + 1 : Nat) : Int) s.got b ++ sealB s.key (packB ((s.acked + i + 1 : Nat) : Int) s.got b) = pk i := by
      rw [hpk, pktL]
      simp only [toL]
      rw [List.getD_eq_getElem?_getD, List.getElem?_drop, hget]
      rfl
    rw [hP] at c2
    have hnext : (List.range (i + 1)).map pk = acc ++ [pk i] := by rw [range_snoc, hacc]
    rw [← hacc]
    generalize packB ((s.acked + i + 1 : Nat) : Int) s.got b = pb at *
    generalize pk i = p at *
    obtain ⟨j, hj⟩ : ∃ j, j = s.acked + i := ⟨_, rfl⟩
    have hj2 : s.acked + (i + 1) = j + 1 := by omega
    rw [← hj] at hget c1 ⊢
    push_cast at c1
    clear hb hP hpl hacc
    repeat' (first
    | (with_reducible apply W_seq_k; intro nx hnx)
    | (with_reducible first | apply W_block | apply W_scope)
    | (with_reducible refine W_prune 29 ?_; simp only [prb, Nat.reducePow, Nat.reduceDiv, Nat.reduceMod, Nat.reduceBEq]; first | (with_reducible apply W_region_l) | with_reducible refine W_region_draw (id := 3) 1 (.op 0 true (.op 1 true (.op 2 true (.op 3 true (.op 4 true (.op 5 true (.op 6 true (.op 7 true (.op 8 true (.op 9 true (.op 10 true (.op 11 true (.op 12 true (.op 13 true (.op 14 true (.op 15 true (.op 16 true (.op 17 true (.op 18 true (.op 19 true (.done))))))))))))))))))))) (by kernel_rfl) ?_ | with_reducible refine W_region_draw (id := 5) 8 (.op 0 true (.op 1 true (.op 2 true (.op 3 true (.op 4 true (.op 5 true (.op 6 true (.op 7 true (.op 8 true (.op 9 true (.op 10 true (.op 11 true (.op 12 true (.op 13 true (.op 14 true (.op 15 true (.op 16 true (.op 17 true (.op 18 true (.op 19 true (.op 20 false (.op 21 false (.op 22 false (.op 23 true (.done))))))))))))))))))))))))) (by kernel_rfl) ?_ | with_reducible refine W_region_draw (id := 7) 6 (.op 0 true (.op 1 true (.op 2 true (.op 3 true (.op 4 true (.op 5 true (.op 6 true (.op 7 true (.op 8 true (.op 9 true (.op 10 true (.op 11 false (.op 12 false (.op 13 false (.op 14 true (.done)))))))))))))))) (by kernel_rfl) ?_)
    | (with_reducible refine WL_born (by simp) rfl (by simp) ?_; simp only [elemsOf, nl, List.map_cons, List.map_nil, Nat.reduceEqDiff, ↓reduceIte, List.take_succ_cons, List.take_zero, List.range_succ, List.range_zero, List.nil_append, List.cons_append, List.map_append, List.drop_succ_cons, List.drop_zero, Nat.reduceMul, Nat.zero_mul, Nat.one_mul, Nat.reduceAdd])
    | ((first | (with_reducible apply WL_op; intro nx hnx) | with_reducible refine Ev_out ?_ | (with_reducible apply popsD_op; intro nx hnx) | (with_reducible refine popsD_alt ?_ ?_; intro nx hnx) | (with_reducible refine pfresh_k hnm fun nm hnm => ?_; (try simp only [fmb] at hnm)) | (with_reducible refine pborn_im ?_; simp only [elemsOf, nl, List.map_cons, List.map_nil, Nat.reduceEqDiff, ↓reduceIte, List.take_succ_cons, List.take_zero, List.range_succ, List.range_zero, List.nil_append, List.cons_append, List.map_append, List.drop_succ_cons, List.drop_zero, Nat.reduceMul, Nat.zero_mul, Nat.one_mul, Nat.reduceAdd]) | (with_reducible refine pmaybe_k ?_; intro bn hbn)); try (simp (maxSteps := 2000000) (disch := omega) only [evb, evd, pbuiltin, constPV, pnck, seqK, blockK, scopeK, pbin, pun, ppick, plen, piaddr, pindex, pfield, pslice, pbound, pconv, pelems, pextract, pmm, PV.mem?, PV.one, PV.cells, pageq, peqs, peq1, pmakes, pstore, pbytes, pmark, psrc, pkey, pnile, pcap, pgrow, List.set, Value.cells, ↓popG_eq, ↓pop.eq_1, ↓List.getElem?_map, ↓List.getElem?_cons_zero, ↓List.getElem?_cons_succ, Value.oneCell', Nat.reduceAdd, Nat.reduceMul, Nat.reduceSub, Nat.reduceLeDiff, Nat.reduceEqDiff, ↓reduceIte, ne_eq, reduceCtorEq, forall_const, exists_and_left, exists_eq_left', eq_self, Nat.reduceLT, Int.reduceLT, Int.reduceLE, Int.reduceToNat, Int.reduceAdd, Int.reduceSub, Int.reduceNeg, hnm, Try.tf0, Try.tf1, Try.tf2, Try.tf3, Try.tf4, Try.tf5, Try.tf6, Try.tf22, Try.tf26, Try.tf28, Try.tf31, Try.tf33, Try.tf43, Try.teq79, Try.call17, Try.call18, hM, hN, hN2, hget]); repeat (refine And.intro (by omega) ?_))
    | ((with_reducible first | apply WL_nil | apply W_label | apply W_skip | apply W_exit | apply W_ret | apply popsD_done); try simp only [seqK, blockK, scopeK, ↓reduceIte, Nat.reduceEqDiff])
    | with_reducible exact popsD_stop
    | (with_reducible apply pguard_intro <;> (intro hc; (try simp only [hcb, reduceCtorEq, forall_const, ne_eq] at hc); first | (exfalso; omega) | (exfalso; exact hc trivial) | refine Ev_in ?_))
    | (with_reducible apply W_cond_k; intro _ _ ea eb; (simp only [condK, cob, opnd, constPV, Nat.reduceEqDiff, Nat.reduceLT, ↓reduceIte, hcb, reduceCtorEq, forall_const, ne_eq]); subst ea eb; first | (refine ⟨fun hc => ?_, fun hc => ?_⟩ <;> first | (exfalso; omega) | (exfalso; exact hc trivial) | skip) | skip)
    | (with_reducible apply hnx; clear hnx nx)
    | (with_reducible refine And.intro (by omega) ?_)
    | (with_reducible refine And.intro ?_ ?_)
    | (with_reducible refine pcall_k (c1) ?_; rintro _ _ ⟨rfl, rfl⟩ -; refine Ev_in ?_)
    | (with_reducible refine pcall_k (c2) ?_; rintro _ _ ⟨rfl, rfl⟩ -; refine Ev_in ?_)
    | (clear hnx nx; with_reducible apply hnx; clear hnx nx)
    | (clear hnx nx; clear hnx nx; with_reducible apply hnx; clear hnx nx)
    | (clear hnx nx; clear hnx nx; clear hnx nx; with_reducible apply hnx; clear hnx nx))
    all_goals first
      | (exfalso
         omega)
      | skip
    refine hlp _ (k - (i + 1)) _ (by omega) ?_ ⟨nm, i + 1, by omega, rfl, rfl⟩
    rw [hnext, hj2]
    refine Wk_fr (by simp only [wkb, Nat.reduceEqDiff, Nat.reduceLT, ↓reduceIte, List.length_append, List.length_cons, List.length_nil, List.map_append, List.map_cons, List.map_nil]) ?_
    refine ⟨?_, ?_⟩
    · intro x hx
      simp only [List.mem_cons, List.not_mem_nil, or_false] at hx ⊢
      rcases hx with rfl | rfl | rfl | rfl
      · exact .inl (by simp [flat, PV.cells])
      · exact .inr (.inl rfl)
      · exact .inr (.inr (.inl rfl))
      · exact .inr (.inr (.inr rfl))
    · simp [names, hM, hnm]
  · have hi : i = k := by omega
    subst hi
    clear hlp
    have hq2 : inR (s.got : Int) := ⟨by omega, by omega⟩
    have c1 := PCalls.arg1 (rep_pk _ _) (rbytesP_c G 0 s.got [] ⟨by omega, by omega⟩ hq2 (by simp))
    have hpl := packB_len 0 s.got [] ⟨by omega, by omega⟩ hq2 (by simp)
    have c2 := rseal_c G s.key (packB 0 s.got []) (by omega)
    rw [← sealP] at c2
    generalize sealP s.key 0 s.got [] = p at *
    generalize packB 0 s.got [] = pb at *
    obtain ⟨j, hj⟩ : ∃ j, j = s.acked + i := ⟨_, rfl⟩
    rw [← hj]
    by_cases hx : i = 0 ∧ s.owing = true
    · obtain ⟨rfl, ho⟩ := hx
      rw [if_pos ⟨rfl, ho⟩] at hfin
      repeat' (first
    | (with_reducible apply W_seq_k; intro nx hnx)
    | (with_reducible first | apply W_block | apply W_scope)
    | (with_reducible refine W_prune 29 ?_; simp only [prb, Nat.reducePow, Nat.reduceDiv, Nat.reduceMod, Nat.reduceBEq]; first | (with_reducible apply W_region_l) | with_reducible refine W_region_draw (id := 3) 1 (.op 0 true (.op 1 true (.op 2 true (.op 3 true (.op 4 true (.op 5 true (.op 6 true (.op 7 true (.op 8 true (.op 9 true (.op 10 true (.op 11 true (.op 12 true (.op 13 true (.op 14 true (.op 15 true (.op 16 true (.op 17 true (.op 18 true (.op 19 true (.done))))))))))))))))))))) (by kernel_rfl) ?_ | with_reducible refine W_region_draw (id := 5) 8 (.op 0 true (.op 1 true (.op 2 true (.op 3 true (.op 4 true (.op 5 true (.op 6 true (.op 7 true (.op 8 true (.op 9 true (.op 10 true (.op 11 true (.op 12 true (.op 13 true (.op 14 true (.op 15 true (.op 16 true (.op 17 true (.op 18 true (.op 19 true (.op 20 false (.op 21 false (.op 22 false (.op 23 true (.done))))))))))))))))))))))))) (by kernel_rfl) ?_ | with_reducible refine W_region_draw (id := 7) 6 (.op 0 true (.op 1 true (.op 2 true (.op 3 true (.op 4 true (.op 5 true (.op 6 true (.op 7 true (.op 8 true (.op 9 true (.op 10 true (.op 11 false (.op 12 false (.op 13 false (.op 14 true (.done)))))))))))))))) (by kernel_rfl) ?_)
    | (with_reducible refine WL_born (by simp) rfl (by simp) ?_; simp only [elemsOf, nl, List.map_cons, List.map_nil, Nat.reduceEqDiff, ↓reduceIte, List.take_succ_cons, List.take_zero, List.range_succ, List.range_zero, List.nil_append, List.cons_append, List.map_append, List.drop_succ_cons, List.drop_zero, Nat.reduceMul, Nat.zero_mul, Nat.one_mul, Nat.reduceAdd])
    | ((first | (with_reducible apply WL_op; intro nx hnx) | with_reducible refine Ev_out ?_ | (with_reducible apply popsD_op; intro nx hnx) | (with_reducible refine popsD_alt ?_ ?_; intro nx hnx) | (with_reducible refine pfresh_k hnm fun nm hnm => ?_; (try simp only [fmb] at hnm)) | (with_reducible refine pborn_im ?_; simp only [elemsOf, nl, List.map_cons, List.map_nil, Nat.reduceEqDiff, ↓reduceIte, List.take_succ_cons, List.take_zero, List.range_succ, List.range_zero, List.nil_append, List.cons_append, List.map_append, List.drop_succ_cons, List.drop_zero, Nat.reduceMul, Nat.zero_mul, Nat.one_mul, Nat.reduceAdd]) | (with_reducible refine pmaybe_k ?_; intro bn hbn)); try (simp (maxSteps := 2000000) (disch := omega) only [evb, evd, pbuiltin, constPV, pnck, seqK, blockK, scopeK, pbin, pun, ppick, plen, piaddr, pindex, pfield, pslice, pbound, pconv, pelems, pextract, pmm, PV.mem?, PV.one, PV.cells, pageq, peqs, peq1, pmakes, pstore, pbytes, pmark, psrc, pkey, pnile, pcap, pgrow, List.set, Value.cells, ↓popG_eq, ↓pop.eq_1, ↓List.getElem?_map, ↓List.getElem?_cons_zero, ↓List.getElem?_cons_succ, Value.oneCell', Nat.reduceAdd, Nat.reduceMul, Nat.reduceSub, Nat.reduceLeDiff, Nat.reduceEqDiff, ↓reduceIte, ne_eq, reduceCtorEq, forall_const, exists_and_left, exists_eq_left', eq_self, Nat.reduceLT, Int.reduceLT, Int.reduceLE, Int.reduceToNat, Int.reduceAdd, Int.reduceSub, Int.reduceNeg, hnm, Try.tf0, Try.tf1, Try.tf2, Try.tf3, Try.tf4, Try.tf5, Try.tf6, Try.tf22, Try.tf26, Try.tf28, Try.tf31, Try.tf33, Try.tf43, Try.teq79, Try.call17, Try.call18, hM, hN, hN2, ho, List.length_nil, List.range_zero, List.map_nil]); repeat (refine And.intro (by omega) ?_))
    | ((with_reducible first | apply WL_nil | apply W_label | apply W_skip | apply W_exit | apply W_ret | apply popsD_done); try simp only [seqK, blockK, scopeK, ↓reduceIte, Nat.reduceEqDiff])
    | with_reducible exact popsD_stop
    | (with_reducible apply pguard_intro <;> (intro hc; (try simp only [hcb, reduceCtorEq, forall_const, ne_eq] at hc); first | (exfalso; omega) | (exfalso; exact hc trivial) | refine Ev_in ?_))
    | (with_reducible apply W_cond_k; intro _ _ ea eb; (simp only [condK, cob, opnd, constPV, Nat.reduceEqDiff, Nat.reduceLT, ↓reduceIte, hcb, reduceCtorEq, forall_const, ne_eq]); subst ea eb; first | (refine ⟨fun hc => ?_, fun hc => ?_⟩ <;> first | (exfalso; omega) | (exfalso; exact hc trivial) | skip) | skip)
    | (with_reducible apply hnx; clear hnx nx)
    | (with_reducible refine And.intro (by omega) ?_)
    | (with_reducible refine And.intro ?_ ?_)
    | (with_reducible refine pcall_k (c1) ?_; rintro _ _ ⟨rfl, rfl⟩ -; refine Ev_in ?_)
    | (with_reducible refine pcall_k (c2) ?_; rintro _ _ ⟨rfl, rfl⟩ -; refine Ev_in ?_)
    | (clear hnx nx; with_reducible apply hnx; clear hnx nx)
    | (clear hnx nx; clear hnx nx; with_reducible apply hnx; clear hnx nx)
    | (clear hnx nx; clear hnx nx; clear hnx nx; with_reducible apply hnx; clear hnx nx))
      all_goals first
        | exact absurd trivial hc
        | (exfalso
           omega)
        | skip
      all_goals
        refine hfin _ _ (Fin_ret1 rfl (H := (nm, ⟨33, true, 1, [p].map pl⟩) :: refO e w m { s with owing := false }) ⟨?_, ?_⟩ ⟨nm, ⟨of_eq_false hnm.1.1, of_eq_false hnm.2.1.1, of_eq_false hnm.2.2.1⟩, ?_, rfl⟩)
        · intro x hx
          simp only [List.mem_cons, List.not_mem_nil, or_false] at hx ⊢
          rcases hx with rfl | rfl | rfl | rfl
          · exact .inl (by simp [flat, PV.cells])
          · exact .inr (.inl rfl)
          · exact .inr (.inr (.inl rfl))
          · exact .inr (.inr (.inr rfl))
        · simp [names, hM, hnm]
        · simp only [fr_getD_cons, Nat.reduceEqDiff, Nat.reduceLT, ↓reduceIte]
          rfl
    · rw [if_neg hx] at hfin
      obtain ⟨acc, hacc⟩ : ∃ acc, acc = (List.range i).map pk := ⟨_, rfl⟩
      have hal : acc.length = i := by rw [hacc]; simp
      rw [← hacc] at hfin ⊢
      repeat' (first
    | (with_reducible apply W_seq_k; intro nx hnx)
    | (with_reducible first | apply W_block | apply W_scope)
    | (with_reducible refine W_prune 29 ?_; simp only [prb, Nat.reducePow, Nat.reduceDiv, Nat.reduceMod, Nat.reduceBEq]; first | (with_reducible apply W_region_l) | with_reducible refine W_region_draw (id := 3) 1 (.op 0 true (.op 1 true (.op 2 true (.op 3 true (.op 4 true (.op 5 true (.op 6 true (.op 7 true (.op 8 true (.op 9 true (.op 10 true (.op 11 true (.op 12 true (.op 13 true (.op 14 true (.op 15 true (.op 16 true (.op 17 true (.op 18 true (.op 19 true (.done))))))))))))))))))))) (by kernel_rfl) ?_ | with_reducible refine W_region_draw (id := 5) 8 (.op 0 true (.op 1 true (.op 2 true (.op 3 true (.op 4 true (.op 5 true (.op 6 true (.op 7 true (.op 8 true (.op 9 true (.op 10 true (.op 11 true (.op 12 true (.op 13 true (.op 14 true (.op 15 true (.op 16 true (.op 17 true (.op 18 true (.op 19 true (.op 20 false (.op 21 false (.op 22 false (.op 23 true (.done))))))))))))))))))))))))) (by kernel_rfl) ?_ | with_reducible refine W_region_draw (id := 7) 6 (.op 0 true (.op 1 true (.op 2 true (.op 3 true (.op 4 true (.op 5 true (.op 6 true (.op 7 true (.op 8 true (.op 9 true (.op 10 true (.op 11 false (.op 12 false (.op 13 false (.op 14 true (.done)))))))))))))))) (by kernel_rfl) ?_)
    | (with_reducible refine WL_born (by simp) rfl (by simp) ?_; simp only [elemsOf, nl, List.map_cons, List.map_nil, Nat.reduceEqDiff, ↓reduceIte, List.take_succ_cons, List.take_zero, List.range_succ, List.range_zero, List.nil_append, List.cons_append, List.map_append, List.drop_succ_cons, List.drop_zero, Nat.reduceMul, Nat.zero_mul, Nat.one_mul, Nat.reduceAdd])
    | ((first | (with_reducible apply WL_op; intro nx hnx) | with_reducible refine Ev_out ?_ | (with_reducible apply popsD_op; intro nx hnx) | (with_reducible refine popsD_alt ?_ ?_; intro nx hnx) | (with_reducible refine pfresh_k hnm fun nm hnm => ?_; (try simp only [fmb] at hnm)) | (with_reducible refine pborn_im ?_; simp only [elemsOf, nl, List.map_cons, List.map_nil, Nat.reduceEqDiff, ↓reduceIte, List.take_succ_cons, List.take_zero, List.range_succ, List.range_zero, List.nil_append, List.cons_append, List.map_append, List.drop_succ_cons, List.drop_zero, Nat.reduceMul, Nat.zero_mul, Nat.one_mul, Nat.reduceAdd]) | (with_reducible refine pmaybe_k ?_; intro bn hbn)); try (simp (maxSteps := 2000000) (disch := omega) only [evb, evd, pbuiltin, constPV, pnck, seqK, blockK, scopeK, pbin, pun, ppick, plen, piaddr, pindex, pfield, pslice, pbound, pconv, pelems, pextract, pmm, PV.mem?, PV.one, PV.cells, pageq, peqs, peq1, pmakes, pstore, pbytes, pmark, psrc, pkey, pnile, pcap, pgrow, List.set, Value.cells, ↓popG_eq, ↓pop.eq_1, ↓List.getElem?_map, ↓List.getElem?_cons_zero, ↓List.getElem?_cons_succ, Value.oneCell', Nat.reduceAdd, Nat.reduceMul, Nat.reduceSub, Nat.reduceLeDiff, Nat.reduceEqDiff, ↓reduceIte, ne_eq, reduceCtorEq, forall_const, exists_and_left, exists_eq_left', eq_self, Nat.reduceLT, Int.reduceLT, Int.reduceLE, Int.reduceToNat, Int.reduceAdd, Int.reduceSub, Int.reduceNeg, hnm, Try.tf0, Try.tf1, Try.tf2, Try.tf3, Try.tf4, Try.tf5, Try.tf6, Try.tf22, Try.tf26, Try.tf28, Try.tf31, Try.tf33, Try.tf43, Try.teq79, Try.call17, Try.call18, hM, hN, hN2]); repeat (refine And.intro (by omega) ?_))
    | ((with_reducible first | apply WL_nil | apply W_label | apply W_skip | apply W_exit | apply W_ret | apply popsD_done); try simp only [seqK, blockK, scopeK, ↓reduceIte, Nat.reduceEqDiff])
    | with_reducible exact popsD_stop
    | (with_reducible apply pguard_intro <;> (intro hc; (try simp only [hcb, reduceCtorEq, forall_const, ne_eq] at hc); first | (exfalso; omega) | (exfalso; exact hc trivial) | refine Ev_in ?_))
    | (with_reducible apply W_cond_k; intro _ _ ea eb; (simp only [condK, cob, opnd, constPV, Nat.reduceEqDiff, Nat.reduceLT, ↓reduceIte, hcb, reduceCtorEq, forall_const, ne_eq]); subst ea eb; first | (refine ⟨fun hc => ?_, fun hc => ?_⟩ <;> first | (exfalso; omega) | (exfalso; exact hc trivial) | skip) | skip)
    | (with_reducible apply hnx; clear hnx nx)
    | (with_reducible refine And.intro (by omega) ?_)
    | (with_reducible refine And.intro ?_ ?_)
    | (with_reducible refine pcall_k (c1) ?_; rintro _ _ ⟨rfl, rfl⟩ -; refine Ev_in ?_)
    | (with_reducible refine pcall_k (c2) ?_; rintro _ _ ⟨rfl, rfl⟩ -; refine Ev_in ?_)
    | (clear hnx nx; with_reducible apply hnx; clear hnx nx)
    | (clear hnx nx; clear hnx nx; with_reducible apply hnx; clear hnx nx)
    | (clear hnx nx; clear hnx nx; clear hnx nx; with_reducible apply hnx; clear hnx nx))
      all_goals first
        | (exfalso
           omega)
        | exact absurd ⟨by omega, by assumption⟩ hx
        | skip
      all_goals
        refine hfin _ _ (Fin_ret1 rfl (H := (n, ⟨33, true, 1, acc.map pl⟩) :: refO e w m { s with owing := false }) (Sub_refl (by simp [names, hM, hN, hN2])) ⟨n, hN0, ?_, rfl⟩)
        simp only [fr_getD_cons, Nat.reduceEqDiff, Nat.reduceLT, ↓reduceIte]
theorem rout_c (G : Globs) (e : Int) (s : RE) (hs1 : s.sent.length ≤ 1000000) (hs2 : s.acked ≤ s.sent.length) (hs3 : s.got ≤ 2000000000) (hwin : s.win ≤ 1000) (hW : ∀ b ∈ s.sent, b.length ≤ 65536) (Hin : Heap) (hH : IsRef e s Hin) :
    PCalls Try.prog G 14 [.ptr e 0] Hin (fun res H => res = .list 1 ((outL (toL s)).1.map pl) ∧ IsRef e { s with owing := false } H) := by
  obtain ⟨w, m, rfl⟩ := hH
  refine (rout_r G e w m s hs1 hs2 hs3 hwin hW).wxs ?_
  rintro _ _ ⟨n, ⟨h1, h2, h3⟩, rfl, rfl⟩
  have hl : (outL (toL s)).1.length = ((outL (toL s)).1.map pl).length := by rw [List.length_map]
  rw [hl]
  exact Wxs_row (by simp [names, h1, h2, h3]) (ref_frz h1 h2 h3) ⟨_, rfl, rfl, w, m, rfl⟩
end Go.PM

namespace Go.PM
open Go.Proofs
theorem pull_len {k : Nat} {h : List (Nat × List UInt8)} {b : List UInt8} {h' : List (Nat × List UInt8)} (hp : pull k h = some (b, h')) : h'.length + 1 = h.length := by
  obtain ⟨j, _, _, h3, _⟩ := pull_some 0 hp
  exact h3
theorem delF_none : ∀ (n g : Nat) (h : List (Nat × List UInt8)), h.length ≤ n → pull ((delF n g h).2.1 + 1) (delF n g h).2.2 = none
  | 0, g, h, hl => by
    have : h = [] := List.eq_nil_of_length_eq_zero (by omega)
    subst this
    rfl
  | n + 1, g, h, hl => by
    simp only [delF]
    cases hp : pull (g + 1) h with
    | none => exact hp
    | some x =>
      obtain ⟨b, h'⟩ := x
      have := pull_len hp
      exact delF_none n (g + 1) h' (by omega)
theorem delF_sum : ∀ (n g : Nat) (h : List (Nat × List UInt8)), (delF n g h).2.1 + (delF n g h).2.2.length = g + h.length
  | 0, g, h => rfl
  | n + 1, g, h => by
    simp only [delF]
    cases hp : pull (g + 1) h with
    | none => rfl
    | some x =>
      obtain ⟨b, h'⟩ := x
      have := pull_len hp
      have := delF_sum n (g + 1) h'
      simp only
      omega
theorem pull_sub {k : Nat} : ∀ {h : List (Nat × List UInt8)} {b : List UInt8} {h' : List (Nat × List UInt8)}, pull k h = some (b, h') → (k, b) ∈ h ∧ ∀ y ∈ h', y ∈ h
  | [], _, _, hp => by cases hp
  | x :: r, b, h', hp => by
    simp only [pull] at hp
    split at hp
    · rename_i hx
      cases hp
      refine ⟨?_, fun y hy => List.mem_cons_of_mem _ hy⟩
      rw [← hx]
      exact List.mem_cons_self
    · cases hr : pull k r with
      | none => rw [hr] at hp; cases hp
      | some y =>
        rw [hr] at hp
        simp only [Option.map_some, Option.some.injEq, Prod.mk.injEq] at hp
        obtain ⟨rfl, rfl⟩ := hp
        obtain ⟨h1, h2⟩ := pull_sub (show pull k r = some (y.1, y.2) from hr)
        refine ⟨List.mem_cons_of_mem _ h1, fun z hz => ?_⟩
        rcases List.mem_cons.1 hz with rfl | hz
        · exact List.mem_cons_self
        · exact List.mem_cons_of_mem _ (h2 z hz)
theorem delF_sub : ∀ (n g : Nat) (h : List (Nat × List UInt8)), (∀ y ∈ (delF n g h).2.2, y ∈ h) ∧ (∀ b ∈ (delF n g h).1, ∃ q, (q, b) ∈ h) ∧ (delF n g h).1.length + (delF n g h).2.2.length = h.length
  | 0, g, h => ⟨fun y hy => hy, fun b hb => absurd hb List.not_mem_nil, by simp [delF]⟩
  | n + 1, g, h => by
    simp only [delF]
    cases hp : pull (g + 1) h with
    | none => exact ⟨fun y hy => hy, fun b hb => absurd hb List.not_mem_nil, by simp⟩
    | some x =>
      obtain ⟨b, h'⟩ := x
      have h1 := pull_len hp
      obtain ⟨h2, h3⟩ := pull_sub hp
      obtain ⟨k1, k2, k3⟩ := delF_sub n (g + 1) h'
      refine ⟨fun y hy => h3 y (k1 y hy), fun c hc => ?_, ?_⟩
      · rcases List.mem_cons.1 hc with rfl | hc
        · exact ⟨_, h2⟩
        · obtain ⟨q, hq⟩ := k2 c hc
          exact ⟨q, h3 _ hq⟩
      · simp only [List.length_cons]
        omega
/-- What holds of an end after i calls. -/
structure RunE (i : Nat) (key : UInt64) (r : RE) : Prop where
  key : r.key = key
  win : r.win ≤ 16
  sent : r.sent.length ≤ i
  acked : r.acked ≤ r.sent.length
  got : r.got + r.held.length ≤ i
  forged : r.forged ≤ i
  none : pull (r.got + 1) r.held = none
  msgs : ∀ b ∈ r.sent, b.length ≤ 65536
  hms : ∀ y ∈ r.held, y.2.length ≤ 65536
theorem RunE.up {i j : Nat} {key : UInt64} {r : RE} (h : RunE i key r) (hij : i ≤ j) : RunE j key r :=
  ⟨h.key, h.win, Nat.le_trans h.sent hij, h.acked, Nat.le_trans h.got hij, Nat.le_trans h.forged hij, h.none, h.msgs, h.hms⟩
theorem RunE.okR {i : Nat} {key : UInt64} {r : RE} (h : RunE i key r) (hi : i ≤ 1000) : OkR r := by
  obtain ⟨_, _, h1, h2, h3, h4, h5, _, _⟩ := h
  exact ⟨by omega, h2, by omega, by omega, h5⟩
theorem RunE.okE {i : Nat} {key : UInt64} {r : RE} (h : RunE i key r) (hi : i ≤ 1000) : OkE (toL r) := by
  obtain ⟨_, _, h1, h2, h3, h4, h5, _, _⟩ := h
  refine ⟨?_, ?_, ?_, ?_⟩
  · simp only [toL, List.length_drop]
    omega
  · simp only [toL, List.length_drop]
    omega
  · simp only [toL]
    omega
  · simp only [toL]
    omega
theorem RunE.send {i : Nat} {key : UInt64} {r : RE} {b : List UInt8} (h : RunE i key r) (hb : b.length ≤ 65536) : RunE (i + 1) key (rsendL r b).2 := by
  have hh := h
  obtain ⟨h0, h00, h1, h2, h3, h4, h5, h6, h7⟩ := h
  unfold rsendL
  split
  · refine ⟨h0, h00, ?_, ?_, ?_, ?_, h5, ?_, h7⟩
    · simp only [List.length_append, List.length_cons, List.length_nil]
      omega
    · simp only [List.length_append, List.length_cons, List.length_nil]
      omega
    · simp only
      omega
    · simp only
      omega
    · intro x hx
      rcases List.mem_append.1 hx with hx | hx
      · exact h6 x hx
      · simp only [List.mem_cons, List.not_mem_nil, or_false] at hx
        subst hx
        exact hb
  · exact hh.up (Nat.le_succ i)
theorem RunE.out {i : Nat} {key : UInt64} {r : RE} (h : RunE i key r) : RunE (i + 1) key { r with owing := false } := by
  obtain ⟨h0, h00, h1, h2, h3, h4, h5, h6, h7⟩ := h
  exact ⟨h0, h00, by simp only; omega, h2, by simp only; omega, by simp only; omega, h5, h6, h7⟩
theorem delL_run {i : Nat} {key : UInt64} {r : RE} {s : LE} (h : RunE i key r) (h1 : s.key = r.key ∧ s.win = r.win ∧ s.acked ≤ r.sent.length ∧ s.wait = r.sent.drop s.acked ∧ s.got + s.held.length ≤ i + 1 ∧ s.forged ≤ i + 1) (h9 : ∀ y ∈ s.held, y.2.length ≤ 65536) :
    (RunE (i + 1) key (frL r (delL s).2) ∧ toL (frL r (delL s).2) = (delL s).2) ∧ (delL s).1.length ≤ i + 1 ∧ ∀ b ∈ (delL s).1, b.length ≤ 65536 := by
  obtain ⟨k1, k2, k3, k4, k5, k6⟩ := h1
  obtain ⟨h0, h00, h1, h2, h3, h4, h5, h6, h7⟩ := h
  have e1 := delF_none s.held.length s.got s.held (Nat.le_refl _)
  have e2 := delF_sum s.held.length s.got s.held
  obtain ⟨e3, e4, e5⟩ := delF_sub s.held.length s.got s.held
  refine ⟨⟨⟨h0, h00, by simp only [frL]; omega, k3, ?_, k6, e1, h6, fun y hy => h9 y (e3 y hy)⟩, ?_⟩, ?_, ?_⟩
  · simp only [frL, delL]
    omega
  · simp only [toL, frL, delL, ← k4, k1, k2]
  · simp only [delL]
    omega
  · intro b hb
    obtain ⟨q, hq⟩ := e4 b hb
    exact h9 _ hq
theorem same_run {i : Nat} {key : UInt64} {r : RE} {s : LE} (h : RunE i key r) (h1 : s.key = r.key ∧ s.win = r.win ∧ s.acked ≤ r.sent.length ∧ s.wait = r.sent.drop s.acked ∧ s.got = r.got ∧ s.held = r.held ∧ s.forged ≤ i + 1) :
    (RunE (i + 1) key (frL r s) ∧ toL (frL r s) = s) ∧ ([] : List (List UInt8)).length ≤ i + 1 ∧ ∀ b ∈ ([] : List (List UInt8)), b.length ≤ 65536 := by
  obtain ⟨k1, k2, k3, k4, k5, k5', k6⟩ := h1
  obtain ⟨h0, h00, h1, h2, h3, h4, h5, h6, h7⟩ := h
  refine ⟨⟨⟨h0, h00, by simp only [frL]; omega, k3, ?_, k6, ?_, h6, ?_⟩, ?_⟩, by simp, by simp⟩
  · simp only [frL, k5, k5']
    omega
  · simp only [frL, k5, k5']
    exact h5
  · simp only [frL, k5']
    exact h7
  · simp only [toL, frL, ← k4, ← k1, ← k2]
theorem RunE.in_ {i : Nat} {key : UInt64} {r : RE} (h : RunE i key r) (x : List UInt8) : (RunE (i + 1) key (frL r (inL (toL r) x).2) ∧ toL (frL r (inL (toL r) x).2) = (inL (toL r) x).2) ∧ (inL (toL r) x).1.1.length ≤ i + 1 ∧ ∀ b ∈ (inL (toL r) x).1.1, b.length ≤ 65536 := by
  have hf := h.forged
  have ha := h.acked
  have hg := h.got
  unfold inL
  split
  · exact same_run h ⟨rfl, rfl, ha, rfl, rfl, rfl, by simp only [toL]; omega⟩
  split
  · exact same_run h ⟨rfl, rfl, ha, rfl, rfl, rfl, by simp only [toL]; omega⟩
  split
  · exact same_run h ⟨rfl, rfl, ha, rfl, rfl, rfl, by simp only [toL]; omega⟩
  rename_i hread
  have hok := readF_ok (by simpa using hread)
  simp only
  generalize (readF (openF (toL r).key x).1).1 = p at *
  unfold takeL
  have hlen : (toL r).acked + (toL r).wait.length = r.sent.length := by simp only [toL, List.length_drop]; omega
  rw [hlen, ack_acked r p.2.1.toNat ha]
  split
  · exact same_run h ⟨rfl, rfl, ha, rfl, rfl, rfl, by simp only [toL]; omega⟩
  rename_i hbad
  split
  · exact same_run h ⟨rfl, rfl, by simp only; omega, rfl, rfl, rfl, by simp only [toL]; omega⟩
  · unfold holdL
    split
    · refine delL_run h ⟨rfl, rfl, by simp only; omega, rfl, by simp only [toL, List.length_append, List.length_cons, List.length_nil]; omega, by simp only [toL]; omega⟩ ?_
      intro y hy
      rcases List.mem_append.1 hy with hy | hy
      · exact h.hms y hy
      · simp only [List.mem_cons, List.not_mem_nil, or_false] at hy
        subst hy
        exact hok.2.2
    · exact delL_run h ⟨rfl, rfl, by simp only; omega, rfl, by simp only [toL]; omega, by simp only [toL]; omega⟩ h.hms
theorem packB_ge (q a : Int) (b : List UInt8) (h1 : inR q) (h2 : inR a) (hb : b.length ≤ 100000) : 4 ≤ (packB q a b).length := by
  have n2 := intB_len9 (n := 2) ⟨by omega, by omega⟩
  have ns := intB_len9 h1
  have na := intB_len9 h2
  have nb := intB_len9 (n := b.length) ⟨by omega, by omega⟩
  simp [packB, encL, bytesB]
  omega
theorem sealP_ge (key : UInt64) (q a : Int) (b : List UInt8) (h1 : inR q) (h2 : inR a) (hb : b.length ≤ 100000) : 12 ≤ (sealP key q a b).length := by
  have := packB_ge q a b h1 h2 hb
  have := sealB_len key (packB q a b)
  rw [sealP, List.length_append]
  omega
theorem sealP_le (key : UInt64) (q a : Int) (b : List UInt8) (h1 : inR q) (h2 : inR a) (hb : b.length ≤ 100000) : (sealP key q a b).length ≤ 200000 := by
  have := packB_len q a b h1 h2 hb
  have := sealB_len key (packB q a b)
  rw [sealP, List.length_append]
  omega
/-- What packets are sent. -/
theorem RunE.packets {i : Nat} {key : UInt64} {r : RE} (h : RunE i key r) (hi : i ≤ 1000) : (outL (toL r)).1.length ≤ 16 ∧ ∀ p ∈ (outL (toL r)).1, 12 ≤ p.length ∧ p.length ≤ 200000 := by
  obtain ⟨h0, h00, h1, h2, h3, h4, h5, h6, h7⟩ := h
  unfold outL
  simp only
  split
  · refine ⟨by simp, fun p hp => ?_⟩
    simp only [List.mem_cons, List.not_mem_nil, or_false] at hp
    subst hp
    have a1 : inR ((toL r).got : Int) := ⟨by simp only [toL]; omega, by simp only [toL]; omega⟩
    exact ⟨sealP_ge _ 0 _ [] ⟨by omega, by omega⟩ a1 (by simp), sealP_le _ 0 _ [] ⟨by omega, by omega⟩ a1 (by simp)⟩
  · refine ⟨?_, fun p hp => ?_⟩
    · simp only [outP, List.length_map, List.length_range, toL]
      omega
    · obtain ⟨j, hj, rfl⟩ := List.mem_map.1 hp
      rw [List.mem_range] at hj
      have a1 : inR ((toL r).got : Int) := ⟨by simp only [toL]; omega, by simp only [toL]; omega⟩
      have hj2 : j < (toL r).wait.length := by omega
      have hjd : (toL r).wait.length = r.sent.length - r.acked := by simp only [toL, List.length_drop]
      have a2 : inR (((toL r).acked + j + 1 : Nat) : Int) := ⟨by simp only [toL]; omega, by simp only [toL]; omega⟩
      have a3 : ((toL r).wait.getD j []).length ≤ 100000 := by
        rw [List.getD_eq_getElem?_getD, List.getElem?_eq_getElem hj2]
        have : (toL r).wait[j] ∈ r.sent := List.mem_of_mem_drop (List.getElem_mem hj2)
        have := h6 _ this
        exact Nat.le_trans this (by omega)
      exact ⟨sealP_ge _ _ _ _ a2 a1 a3, sealP_le _ _ _ _ a2 a1 a3⟩
end Go.PM

namespace Go.PM
open Go.Proofs
instance decLE : DecidableEq LE := fun a b => decidable_of_iff (a.win = b.win ∧ a.key = b.key ∧ a.wait = b.wait ∧ a.acked = b.acked ∧ a.got = b.got ∧ a.held = b.held ∧ a.owing = b.owing ∧ a.forged = b.forged) (by
  cases a
  cases b
  simp)
theorem WL_nd {P : Program} {G : Globs} {I : List Int} {l0 l : List Oper} {σ : PState} {K : PState → Prop} (h : (names σ.heap).Nodup → WL P G I l0 l σ K) : WL P G I l0 l σ K :=
  fun E hE A a w hs => h hs.nodup E hE A a w hs
theorem lv1 : (sendL (newL 2 9) [97]) = (0, ⟨2, 9, [[97]], 0, 0, [], false, 0⟩) := by decide +kernel
theorem lv2 : (sendL ⟨2, 9, [[97]], 0, 0, [], false, 0⟩ [98]) = (0, ⟨2, 9, [[97], [98]], 0, 0, [], false, 0⟩) := by decide +kernel
theorem lv3 : (sendL ⟨2, 9, [[97], [98]], 0, 0, [], false, 0⟩ [99]) = (0, ⟨2, 9, [[97], [98], [99]], 0, 0, [], false, 0⟩) := by decide +kernel
theorem lv4 : outL ⟨2, 9, [[97], [98], [99]], 0, 0, [], false, 0⟩ = ([sealP 9 1 0 [97], sealP 9 2 0 [98]], ⟨2, 9, [[97], [98], [99]], 0, 0, [], false, 0⟩) := by decide +kernel
theorem lv5 : inL (newL 2 9) (sealP 9 2 0 [98]) = (([], 0), ⟨2, 9, [], 0, 0, [(2, [98])], true, 0⟩) := by decide +kernel
theorem lv6 : inL ⟨2, 9, [], 0, 0, [(2, [98])], true, 0⟩ (sealP 9 1 0 [97]) = (([[97], [98]], 0), ⟨2, 9, [], 0, 2, [], true, 0⟩) := by decide +kernel
theorem lv7 : outL ⟨2, 9, [], 0, 2, [], true, 0⟩ = ([sealP 9 0 2 []], ⟨2, 9, [], 0, 2, [], false, 0⟩) := by decide +kernel
theorem lv8 : inL ⟨2, 9, [[97], [98], [99]], 0, 0, [], false, 0⟩ (sealP 9 0 2 []) = (([], 0), ⟨2, 9, [[99]], 2, 0, [], false, 0⟩) := by decide +kernel
theorem lv9 : outL ⟨2, 9, [[99]], 2, 0, [], false, 0⟩ = ([sealP 9 3 0 [99]], ⟨2, 9, [[99]], 2, 0, [], false, 0⟩) := by decide +kernel
theorem sealP_len (key : UInt64) (q a : Int) (b : List UInt8) (h1 : inR q) (h2 : inR a) (hb : b.length ≤ 100000) : (sealP key q a b).length ≤ 100048 := by
  have := packB_len q a b h1 h2 hb
  have := sealB_len key (packB q a b)
  rw [sealP, List.length_append]
  omega
/-- An end comes back. -/
theorem new_ok (G : Globs) (win : Int) (key : UInt64) (h : 1 ≤ win ∧ win ≤ 16) : PCalls Try.prog G 28 [pint .i64 win, pq key] [] (fun res H => ∃ e, res = .tuple [.ptr e 0, pint .i64 0] ∧ IsEnd e (newL win.toNat key) H) := by
  refine (new_c G win key).mono ?_
  rintro res H (⟨h1, _⟩ | ⟨_, _, h3⟩)
  · exact absurd h h1
  · exact h3
attribute [local irreducible] W PCalls pcall pcallI WL
section
variable {P : Program} {G : Globs} {I : List Int}
/-- A marked row is turned no more. -/
theorem WL_mark {l0 l : List Oper} {K : PState → Prop} {N d d2 : Nat} {L : List (Nat × PV)} {n : Int} {e : TypeId} {len : Nat} {cells : List PV} {H : Heap} (hI : n ∉ I) (hc : len = cells.length)
    (hL : ∀ x ∈ L, frz n cells x.2 = x.2) (hH : ∀ x ∈ H, x.1 ≠ n ∧ ∀ u ∈ x.2.cells, frz1 n cells u = u ∧ u.one = true)
    (h : WL P G I l0 l ⟨fr N ((d, .list 1 cells) :: (d2, .list 1 cells) :: L), H⟩ K) : WL P G I l0 l ⟨fr N ((d, .row n 1 len) :: (d2, .row n 1 len) :: L), (n, ⟨e, false, 1, cells⟩) :: H⟩ K := by
  subst hc
  have hdel : del ((n, (⟨e, false, 1, cells⟩ : PObj)) :: H) n = H := by
    simp only [del, if_true]
  refine WL_x ?_ h
  have h1 := Wx.freeze_f (G := G) (I := I) (N := N) (l := (d, .row n 1 cells.length) :: (d2, .row n 1 cells.length) :: L) (H := (n, ⟨e, false, 1, cells⟩) :: H) n (o := ⟨e, false, 1, cells⟩) hI (by simp only [look, if_true]) (by
    intro x hx u hu
    rw [hdel] at hx
    obtain ⟨h2, h3⟩ := (hH x hx).2 u hu
    rw [h2]
    exact h3)
  have e1 : L.map (fun x => (x.1, frz n cells x.2)) = L := by
    conv => rhs; rw [← List.map_id L]
    exact List.map_congr_left fun x hx => by rw [hL x hx]; rfl
  have e2 : frz n cells (.row n 1 cells.length) = .list 1 cells := by
    simp only [frz, frz1, if_true]
    rw [if_pos ⟨by omega, by omega⟩, elems_all]
  have e3 : frzH n cells ((n, ⟨e, false, 1, cells⟩) :: H) = H := by
    unfold frzH
    rw [hdel]
    conv => rhs; rw [← List.map_id H]
    refine List.map_congr_left fun x hx => ?_
    have h4 : x.2.cells.map (frz1 n cells) = x.2.cells := by
      conv => rhs; rw [← List.map_id x.2.cells]
      exact List.map_congr_left fun u hu => ((hH x hx).2 u hu).1
    rw [h4]
    rfl
  rw [List.map_cons, List.map_cons, e1] at h1
  simp only [e2, e3] at h1
  exact h1
end
theorem isEnd_frz {e n : Int} {s : LE} {H : Heap} (xs : List PV) (hE : IsEnd e s H) (hn : n ∉ names H) : ∀ x ∈ H, x.1 ≠ n ∧ ∀ u ∈ x.2.cells, frz1 n xs u = u ∧ u.one = true := by
  obtain ⟨w, m, rfl⟩ := hE
  simp only [names, List.map_cons, List.map_nil, List.mem_cons, List.not_mem_nil, or_false, not_or] at hn
  exact end_frz hn.1 hn.2.1 hn.2.2
theorem two_frz {n a b : Int} {o : PObj} {sa sb : LE} {Ha Hb : Heap} (xs : List PV) (hEb : IsEnd b sb Hb) (hEa : IsEnd a sa Ha) (nd : (names ((n, o) :: (Hb ++ Ha))).Nodup) : ∀ x ∈ Hb ++ Ha, x.1 ≠ n ∧ ∀ u ∈ x.2.cells, frz1 n xs u = u ∧ u.one = true := by
  have h1 : n ∉ names (Hb ++ Ha) := (List.nodup_cons.1 nd).1
  simp only [names, List.map_append, List.mem_append, not_or] at h1
  intro x hx
  rcases List.mem_append.1 hx with h | h
  · exact isEnd_frz xs hEb h1.1 x h
  · exact isEnd_frz xs hEa h1.2 x h
theorem two_ne {n a b : Int} {o : PObj} {sa sb : LE} {Ha Hb : Heap} (hEb : IsEnd b sb Hb) (hEa : IsEnd a sa Ha) (nd : (names ((n, o) :: (Hb ++ Ha))).Nodup) : (a = n) = False ∧ (b = n) = False := by
  have h1 : n ∉ names (Hb ++ Ha) := (List.nodup_cons.1 nd).1
  simp only [names, List.map_append, List.mem_append, not_or] at h1
  obtain ⟨w, m, rfl⟩ := hEa
  obtain ⟨w2, m2, rfl⟩ := hEb
  exact ⟨eq_false fun e => h1.2 (by simp [e]), eq_false fun e => h1.1 (by simp [e])⟩
/-- Two ends come back. -/
def winA (window : Int) : Nat := 1 + arN window 16
def winB (window : Int) : Nat := 1 + arN (window.tdiv 16) 16
set_option maxRecDepth 100000 in
set_option maxHeartbeats 8000000 in
theorem ends_c (G : Globs) (window : Int) (key : UInt64) (hw : inR window) : PCalls Try.prog G 9 [pint .i64 window, pq key] []
    (fun res H => ∃ (b a : Int) (Hb Ha : Heap), res = .list 1 [.ptr a 0, .ptr b 0] ∧ H = Hb ++ Ha ∧ IsEnd b (newL (winB window) key) Hb ∧ IsEnd a (newL (winA window) key) Ha) := by
  have h1 := arN_lt window 16 (by omega)
  have h2 := arN_lt (window.tdiv 16) 16 (by omega)
  have hq : inR (window.tdiv 16) := by
    obtain ⟨h3, h4⟩ := hw
    constructor
    · rcases Int.le_total 0 window with h | h
      · have := Int.tdiv_nonneg h (show (0 : Int) ≤ 16 by omega)
        omega
      · obtain ⟨w, rfl⟩ : ∃ w : Int, window = -w := ⟨-window, by omega⟩
        rw [Int.neg_tdiv]
        have := Int.tdiv_le_self (b := 16) (show 0 ≤ w by omega)
        omega
    · rcases Int.le_total 0 window with h | h
      · have := Int.tdiv_le_self (b := 16) h
        omega
      · obtain ⟨w, rfl⟩ : ∃ w : Int, window = -w := ⟨-window, by omega⟩
        rw [Int.neg_tdiv]
        have := Int.tdiv_nonneg (show 0 ≤ w by omega) (show (0 : Int) ≤ 16 by omega)
        omega
  have c1 := around_c G window 16 (by omega) (by omega) hw
  have c2 := around_c G (window.tdiv 16) 16 (by omega) (by omega) hq
  have hwr : IntKind.i64.wrap (window.tdiv 16) = window.tdiv 16 := wr64 _ hq.1 hq.2
  have n1 := new_ok G (winA window : Nat) key (by rw [winA]; omega)
  have n2 := new_ok G (winB window : Nat) key (by rw [winB]; omega)
  rw [Int.toNat_natCast] at n1 n2
  have e1 : (1 : Int) + (arN window 16 : Nat) = (winA window : Nat) := by rw [winA]; omega
  have e2 : (1 : Int) + (arN (window.tdiv 16) 16 : Nat) = (winB window : Nat) := by rw [winB]; omega
  have h3 : winA window ≤ 16 := by rw [winA]; omega
  have h4 : winB window ≤ 16 := by rw [winB]; omega
  generalize winA window = wa at *
  generalize winB window = wb at *
  generalize arN window 16 = ka at *
  generalize arN (window.tdiv 16) 16 = kb at *
  (refine PCalls_f Try.func9 rfl Try.ntmps9 Try.results9 (by simp) fun fin hfin => ?_; have hnm : True := trivial; simp (maxSteps := 2000000) (disch := omega) only [evb, evd, pbuiltin, constPV, pnck, seqK, blockK, scopeK, pbin, pun, ppick, plen, piaddr, pindex, pfield, pslice, pbound, pconv, pelems, pextract, pmm, PV.mem?, PV.one, PV.cells, pageq, peqs, peq1, pmakes, pstore, pbytes, pmark, psrc, pkey, pnile, pcap, pgrow, List.set, Value.cells, ↓popG_eq, ↓pop.eq_1, ↓List.getElem?_map, ↓List.getElem?_cons_zero, ↓List.getElem?_cons_succ, Value.oneCell', Nat.reduceAdd, Nat.reduceMul, Nat.reduceSub, Nat.reduceLeDiff, Nat.reduceEqDiff, ↓reduceIte, ne_eq, reduceCtorEq, forall_const, exists_and_left, exists_eq_left', eq_self, Nat.reduceLT, Int.reduceLT, Int.reduceLE, Int.reduceToNat, Int.reduceAdd, Int.reduceSub, Int.reduceNeg, hnm, Try.tf0, Try.tf1, Try.tf2, Try.tf3, Try.tf4, Try.tf22, Try.tf24, Try.tf34, Try.tf35, Try.tf53, Try.tf65, Try.teq79, Try.call10, Try.call28])
  repeat' (first
    | (with_reducible apply W_seq_k; intro nx hnx)
    | (with_reducible first | apply W_block | apply W_scope)
    | (with_reducible refine W_prune 499 ?_; simp only [prb, Nat.reducePow, Nat.reduceDiv, Nat.reduceMod, Nat.reduceBEq]; with_reducible apply W_region_l)
    | (with_reducible refine WL_born (by simp) rfl (by simp) ?_; simp only [elemsOf, nl, List.map_cons, List.map_nil, Nat.reduceEqDiff, ↓reduceIte, List.take_succ_cons, List.take_zero, List.range_succ, List.range_zero, List.nil_append, List.cons_append, List.map_append, List.drop_succ_cons, List.drop_zero, Nat.reduceMul, Nat.zero_mul, Nat.one_mul, Nat.reduceAdd])
    | ((first | (with_reducible apply WL_op; intro nx hnx) | with_reducible refine Ev_out ?_ | (with_reducible refine pfresh_k hnm fun nm hnm => ?_; (try simp only [fmb] at hnm)) | (with_reducible refine pborn_im ?_; simp only [elemsOf, nl, List.map_cons, List.map_nil, Nat.reduceEqDiff, ↓reduceIte, List.take_succ_cons, List.take_zero, List.range_succ, List.range_zero, List.nil_append, List.cons_append, List.map_append, List.drop_succ_cons, List.drop_zero, Nat.reduceMul, Nat.zero_mul, Nat.one_mul, Nat.reduceAdd]) | (with_reducible refine pmaybe_k ?_; intro bn hbn)); try (simp (maxSteps := 2000000) (disch := omega) only [evb, evd, pbuiltin, constPV, pnck, seqK, blockK, scopeK, pbin, pun, ppick, plen, piaddr, pindex, pfield, pslice, pbound, pconv, pelems, pextract, pmm, PV.mem?, PV.one, PV.cells, pageq, peqs, peq1, pmakes, pstore, pbytes, pmark, psrc, pkey, pnile, pcap, pgrow, List.set, Value.cells, ↓popG_eq, ↓pop.eq_1, ↓List.getElem?_map, ↓List.getElem?_cons_zero, ↓List.getElem?_cons_succ, Value.oneCell', Nat.reduceAdd, Nat.reduceMul, Nat.reduceSub, Nat.reduceLeDiff, Nat.reduceEqDiff, ↓reduceIte, ne_eq, reduceCtorEq, forall_const, exists_and_left, exists_eq_left', eq_self, Nat.reduceLT, Int.reduceLT, Int.reduceLE, Int.reduceToNat, Int.reduceAdd, Int.reduceSub, Int.reduceNeg, hnm, Try.tf0, Try.tf1, Try.tf2, Try.tf3, Try.tf4, Try.tf22, Try.tf24, Try.tf34, Try.tf35, Try.tf53, Try.tf65, Try.teq79, Try.call10, Try.call28, e1, hwr]); repeat (refine And.intro (by omega) ?_))
    | ((with_reducible first | apply WL_nil | apply W_label | apply W_skip | apply W_exit | apply W_ret); try simp only [seqK, blockK, scopeK, ↓reduceIte, Nat.reduceEqDiff])
    | (with_reducible apply pguard_intro <;> (intro hc; (try simp only [hcb, reduceCtorEq, forall_const, ne_eq] at hc); first | (exfalso; omega) | (exfalso; exact hc trivial) | refine Ev_in ?_))
    | (with_reducible apply W_cond_k; intro _ _ ea eb; (simp only [condK, cob, opnd, constPV, Nat.reduceEqDiff, Nat.reduceLT, ↓reduceIte, hcb, reduceCtorEq, forall_const, ne_eq]); subst ea eb; first | (refine ⟨fun hc => ?_, fun hc => ?_⟩ <;> first | (exfalso; omega) | (exfalso; exact hc trivial) | skip) | skip)
    | (with_reducible apply hnx; clear hnx nx)
    | (with_reducible refine And.intro (by omega) ?_)
    | (with_reducible refine And.intro ?_ ?_)
    | (with_reducible refine pcall_k (c1) ?_; rintro _ _ ⟨rfl, rfl⟩ -; refine Ev_in ?_)
    | (clear hnx nx; with_reducible apply hnx; clear hnx nx)
    | (clear hnx nx; clear hnx nx; with_reducible apply hnx; clear hnx nx)
    | (clear hnx nx; clear hnx nx; clear hnx nx; with_reducible apply hnx; clear hnx nx))
  refine pcall_k n1 ?_
  rintro _ Ha ⟨a, rfl, hEa⟩ -
  refine Ev_in ?_
  repeat' (first
    | (with_reducible apply W_seq_k; intro nx hnx)
    | (with_reducible first | apply W_block | apply W_scope)
    | (with_reducible refine W_prune 499 ?_; simp only [prb, Nat.reducePow, Nat.reduceDiv, Nat.reduceMod, Nat.reduceBEq]; with_reducible apply W_region_l)
    | (with_reducible refine WL_born (by simp) rfl (by simp) ?_; simp only [elemsOf, nl, List.map_cons, List.map_nil, Nat.reduceEqDiff, ↓reduceIte, List.take_succ_cons, List.take_zero, List.range_succ, List.range_zero, List.nil_append, List.cons_append, List.map_append, List.drop_succ_cons, List.drop_zero, Nat.reduceMul, Nat.zero_mul, Nat.one_mul, Nat.reduceAdd])
    | ((first | (with_reducible apply WL_op; intro nx hnx) | with_reducible refine Ev_out ?_ | (with_reducible refine pfresh_k hnm fun nm hnm => ?_; (try simp only [fmb] at hnm)) | (with_reducible refine pborn_im ?_; simp only [elemsOf, nl, List.map_cons, List.map_nil, Nat.reduceEqDiff, ↓reduceIte, List.take_succ_cons, List.take_zero, List.range_succ, List.range_zero, List.nil_append, List.cons_append, List.map_append, List.drop_succ_cons, List.drop_zero, Nat.reduceMul, Nat.zero_mul, Nat.one_mul, Nat.reduceAdd]) | (with_reducible refine pmaybe_k ?_; intro bn hbn)); try (simp (maxSteps := 2000000) (disch := omega) only [evb, evd, pbuiltin, constPV, pnck, seqK, blockK, scopeK, pbin, pun, ppick, plen, piaddr, pindex, pfield, pslice, pbound, pconv, pelems, pextract, pmm, PV.mem?, PV.one, PV.cells, pageq, peqs, peq1, pmakes, pstore, pbytes, pmark, psrc, pkey, pnile, pcap, pgrow, List.set, Value.cells, ↓popG_eq, ↓pop.eq_1, ↓List.getElem?_map, ↓List.getElem?_cons_zero, ↓List.getElem?_cons_succ, Value.oneCell', Nat.reduceAdd, Nat.reduceMul, Nat.reduceSub, Nat.reduceLeDiff, Nat.reduceEqDiff, ↓reduceIte, ne_eq, reduceCtorEq, forall_const, exists_and_left, exists_eq_left', eq_self, Nat.reduceLT, Int.reduceLT, Int.reduceLE, Int.reduceToNat, Int.reduceAdd, Int.reduceSub, Int.reduceNeg, hnm, Try.tf0, Try.tf1, Try.tf2, Try.tf3, Try.tf4, Try.tf22, Try.tf24, Try.tf34, Try.tf35, Try.tf53, Try.tf65, Try.teq79, Try.call10, Try.call28, e2, hwr]); repeat (refine And.intro (by omega) ?_))
    | ((with_reducible first | apply WL_nil | apply W_label | apply W_skip | apply W_exit | apply W_ret); try simp only [seqK, blockK, scopeK, ↓reduceIte, Nat.reduceEqDiff])
    | (with_reducible apply pguard_intro <;> (intro hc; (try simp only [hcb, reduceCtorEq, forall_const, ne_eq] at hc); first | (exfalso; omega) | (exfalso; exact hc trivial) | refine Ev_in ?_))
    | (with_reducible apply W_cond_k; intro _ _ ea eb; (simp only [condK, cob, opnd, constPV, Nat.reduceEqDiff, Nat.reduceLT, ↓reduceIte, hcb, reduceCtorEq, forall_const, ne_eq]); subst ea eb; first | (refine ⟨fun hc => ?_, fun hc => ?_⟩ <;> first | (exfalso; omega) | (exfalso; exact hc trivial) | skip) | skip)
    | (with_reducible apply hnx; clear hnx nx)
    | (with_reducible refine And.intro (by omega) ?_)
    | (with_reducible refine And.intro ?_ ?_)
    | (with_reducible refine pcall_k (c2) ?_; rintro _ _ ⟨rfl, rfl⟩ -; refine Ev_in ?_)
    | (clear hnx nx; with_reducible apply hnx; clear hnx nx)
    | (clear hnx nx; clear hnx nx; with_reducible apply hnx; clear hnx nx)
    | (clear hnx nx; clear hnx nx; clear hnx nx; with_reducible apply hnx; clear hnx nx))
  refine pcall_k n2 ?_
  rintro _ Hb ⟨b, rfl, hEb⟩ -
  refine Ev_in ?_
  repeat' (first
    | (with_reducible first | apply W_block | apply W_scope)
    | (with_reducible refine W_prune 499 ?_; simp only [prb, Nat.reducePow, Nat.reduceDiv, Nat.reduceMod, Nat.reduceBEq]; with_reducible apply W_region_l)
    | ((first | (with_reducible apply WL_op; intro nx hnx) | with_reducible refine Ev_out ?_ | (with_reducible refine pfresh_k hnm fun nm hnm => ?_; (try simp only [fmb] at hnm)) | (with_reducible refine pborn_mu hnm fun nm hnm => ?_; (try simp only [fmb] at hnm)) | (with_reducible refine pmaybe_k ?_; intro bn hbn)); try (simp (maxSteps := 2000000) (disch := omega) only [evb, evd, pbuiltin, constPV, pnck, seqK, blockK, scopeK, pbin, pun, ppick, plen, piaddr, pindex, pfield, pslice, pbound, pconv, pelems, pextract, pmm, PV.mem?, PV.one, PV.cells, pageq, peqs, peq1, pmakes, pstore, pbytes, pmark, psrc, pkey, pnile, pcap, pgrow, List.set, Value.cells, ↓popG_eq, ↓pop.eq_1, ↓List.getElem?_map, ↓List.getElem?_cons_zero, ↓List.getElem?_cons_succ, Value.oneCell', Nat.reduceAdd, Nat.reduceMul, Nat.reduceSub, Nat.reduceLeDiff, Nat.reduceEqDiff, ↓reduceIte, ne_eq, reduceCtorEq, forall_const, exists_and_left, exists_eq_left', eq_self, Nat.reduceLT, Int.reduceLT, Int.reduceLE, Int.reduceToNat, Int.reduceAdd, Int.reduceSub, Int.reduceNeg, hnm, Try.tf0, Try.tf1, Try.tf2, Try.tf3, Try.tf4, Try.tf22, Try.tf24, Try.tf34, Try.tf35, Try.tf53, Try.tf65, Try.teq79, Try.call10, Try.call28]); repeat (refine And.intro (by omega) ?_))
    | ((with_reducible first | apply WL_nil | apply W_label | apply W_skip | apply W_exit | apply W_ret); try simp only [seqK, blockK, scopeK, ↓reduceIte, Nat.reduceEqDiff])
    | (with_reducible apply pguard_intro <;> (intro hc; (try simp only [hcb, reduceCtorEq, forall_const, ne_eq] at hc); first | (exfalso; omega) | (exfalso; exact hc trivial) | refine Ev_in ?_))
    | (with_reducible apply W_cond_k; intro _ _ ea eb; (simp only [condK, cob, opnd, constPV, Nat.reduceEqDiff, Nat.reduceLT, ↓reduceIte, hcb, reduceCtorEq, forall_const, ne_eq]); subst ea eb; first | (refine ⟨fun hc => ?_, fun hc => ?_⟩ <;> first | (exfalso; omega) | (exfalso; exact hc trivial) | skip) | skip)
    | (with_reducible apply hnx; clear hnx nx)
    | (with_reducible refine And.intro (by omega) ?_)
    | (with_reducible refine And.intro ?_ ?_)
    | (clear hnx nx; with_reducible apply hnx; clear hnx nx)
    | (clear hnx nx; clear hnx nx; with_reducible apply hnx; clear hnx nx)
    | (clear hnx nx; clear hnx nx; clear hnx nx; with_reducible apply hnx; clear hnx nx))
  refine W_nd fun nd => ?_
  repeat' (first
    | (with_reducible apply W_seq_k; intro nx hnx)
    | (with_reducible first | apply W_block | apply W_scope)
    | (with_reducible refine W_prune 499 ?_; simp only [prb, Nat.reducePow, Nat.reduceDiv, Nat.reduceMod, Nat.reduceBEq]; with_reducible apply W_region_l)
    | (with_reducible refine WL_born (by simp) rfl (by simp) ?_; simp only [elemsOf, nl, List.map_cons, List.map_nil, Nat.reduceEqDiff, ↓reduceIte, List.take_succ_cons, List.take_zero, List.range_succ, List.range_zero, List.nil_append, List.cons_append, List.map_append, List.drop_succ_cons, List.drop_zero, Nat.reduceMul, Nat.zero_mul, Nat.one_mul, Nat.reduceAdd])
    | ((first | (with_reducible apply WL_op; intro nx hnx) | with_reducible refine Ev_out ?_ | (with_reducible refine pfresh_k hnm fun nm hnm => ?_; (try simp only [fmb] at hnm)) | (with_reducible refine pborn_im ?_; simp only [elemsOf, nl, List.map_cons, List.map_nil, Nat.reduceEqDiff, ↓reduceIte, List.take_succ_cons, List.take_zero, List.range_succ, List.range_zero, List.nil_append, List.cons_append, List.map_append, List.drop_succ_cons, List.drop_zero, Nat.reduceMul, Nat.zero_mul, Nat.one_mul, Nat.reduceAdd]) | (with_reducible refine pmaybe_k ?_; intro bn hbn)); try (simp (maxSteps := 2000000) (disch := omega) only [evb, evd, pbuiltin, constPV, pnck, seqK, blockK, scopeK, pbin, pun, ppick, plen, piaddr, pindex, pfield, pslice, pbound, pconv, pelems, pextract, pmm, PV.mem?, PV.one, PV.cells, pageq, peqs, peq1, pmakes, pstore, pbytes, pmark, psrc, pkey, pnile, pcap, pgrow, List.set, Value.cells, ↓popG_eq, ↓pop.eq_1, ↓List.getElem?_map, ↓List.getElem?_cons_zero, ↓List.getElem?_cons_succ, Value.oneCell', Nat.reduceAdd, Nat.reduceMul, Nat.reduceSub, Nat.reduceLeDiff, Nat.reduceEqDiff, ↓reduceIte, ne_eq, reduceCtorEq, forall_const, exists_and_left, exists_eq_left', eq_self, Nat.reduceLT, Int.reduceLT, Int.reduceLE, Int.reduceToNat, Int.reduceAdd, Int.reduceSub, Int.reduceNeg, hnm, Try.tf0, Try.tf1, Try.tf2, Try.tf3, Try.tf4, Try.tf22, Try.tf24, Try.tf34, Try.tf35, Try.tf53, Try.tf65, Try.teq79, Try.call10, Try.call28]); repeat (refine And.intro (by omega) ?_))
    | ((with_reducible first | apply WL_nil | apply W_label | apply W_skip | apply W_exit | apply W_ret); try simp only [seqK, blockK, scopeK, ↓reduceIte, Nat.reduceEqDiff])
    | (with_reducible apply pguard_intro <;> (intro hc; (try simp only [hcb, reduceCtorEq, forall_const, ne_eq] at hc); first | (exfalso; omega) | (exfalso; exact hc trivial) | refine Ev_in ?_))
    | (with_reducible apply W_cond_k; intro _ _ ea eb; (simp only [condK, cob, opnd, constPV, Nat.reduceEqDiff, Nat.reduceLT, ↓reduceIte, hcb, reduceCtorEq, forall_const, ne_eq]); subst ea eb; first | (refine ⟨fun hc => ?_, fun hc => ?_⟩ <;> first | (exfalso; omega) | (exfalso; exact hc trivial) | skip) | skip)
    | (with_reducible apply hnx; clear hnx nx)
    | (with_reducible refine And.intro (by omega) ?_)
    | (with_reducible refine And.intro ?_ ?_)
    | (clear hnx nx; with_reducible apply hnx; clear hnx nx)
    | (clear hnx nx; clear hnx nx; with_reducible apply hnx; clear hnx nx)
    | (clear hnx nx; clear hnx nx; clear hnx nx; with_reducible apply hnx; clear hnx nx))
  all_goals first
    | exact absurd trivial hc
    | (refine hfin _ _ (Fin_ret1 rfl (H := Hb ++ Ha) (Sub_refl nd) ⟨b, a, Hb, Ha, ?_, rfl, hEb, hEa⟩)
       simp only [fr_getD_cons, Nat.reduceEqDiff, Nat.reduceLT, ↓reduceIte])
theorem send_k (G : Globs) {e : Int} {s s' : LE} {b : List UInt8} {r : Int} {Hin : Heap} (h : sendL s b = (r, s')) (hH : IsEnd e s Hin) (hb : b.length ≤ 4294900000) (hw : s.wait.length ≤ 4294900000) :
    PCalls Try.prog G 11 [.ptr e 0, pl b] Hin (fun res H => res = pint .i64 r ∧ IsEnd e s' H) := by
  have := send_c G e s b hb hw Hin hH
  rwa [h] at this
theorem in_k (G : Globs) {e : Int} {s s' : LE} {x : List UInt8} {l : List (List UInt8)} {r : Int} {Hin : Heap} (h : inL s x = ((l, r), s')) (hH : IsEnd e s Hin) (hx : x.length ≤ 4294900000) (hs : OkE s) :
    PCalls Try.prog G 19 [.ptr e 0, pl x] Hin (fun res H => res = .tuple [.list 1 (l.map pl), pint .i64 r] ∧ IsEnd e s' H) := by
  have := in_c G e s x hx hs Hin hH
  rwa [h] at this
theorem out_k (G : Globs) {e : Int} {s s' : LE} {l : List (List UInt8)} {Hin : Heap} (h : outL s = (l, s')) (hH : IsEnd e s Hin) (hs : OkE s) (hwin : s.win ≤ 1000) (hW : ∀ b ∈ s.wait, b.length ≤ 65536) :
    PCalls Try.prog G 13 [.ptr e 0] Hin (fun res H => res = .list 1 (l.map pl) ∧ IsEnd e s' H) := by
  have := out_c G e s hs hwin hW Hin hH
  rwa [h] at this
set_option maxRecDepth 100000 in
set_option maxHeartbeats 8000000 in
theorem lives_c (G : Globs) : PCalls Try.prog G 23 [] [] (fun res H => res = pbool true ∧ H = []) := by
  have n1 := new_ok G 2 9 (by omega)
  have n1 : PCalls Try.prog G 28 [.val (.int .i64 2), .val (.int .u64 9)] [] (fun res H => ∃ e, res = .tuple [.ptr e 0, pint .i64 0] ∧ IsEnd e (newL 2 9) H) := n1
  (refine PCalls_f Try.func23 rfl Try.ntmps23 Try.results23 (by simp) fun fin hfin => ?_; have hnm : True := trivial; simp (maxSteps := 2000000) (disch := omega) only [evb, evd, pbuiltin, constPV, pnck, seqK, blockK, scopeK, pbin, pun, ppick, plen, piaddr, pindex, pfield, pslice, pbound, pconv, pelems, pextract, pmm, PV.mem?, PV.one, PV.cells, pageq, peqs, peq1, pmakes, pstore, pbytes, pmark, psrc, pkey, pnile, pcap, pgrow, List.set, Value.cells, ↓popG_eq, ↓pop.eq_1, ↓List.getElem?_map, ↓List.getElem?_cons_zero, ↓List.getElem?_cons_succ, Value.oneCell', Nat.reduceAdd, Nat.reduceMul, Nat.reduceSub, Nat.reduceLeDiff, Nat.reduceEqDiff, ↓reduceIte, ne_eq, reduceCtorEq, forall_const, exists_and_left, exists_eq_left', eq_self, Nat.reduceLT, Int.reduceLT, Int.reduceLE, Int.reduceToNat, Int.reduceAdd, Int.reduceSub, Int.reduceNeg, hnm, Try.tf0, Try.tf1, Try.tf3, Try.tf4, Try.tf5, Try.tf9, Try.tf22, Try.tf28, Try.tf33, Try.tf34, Try.tf35, Try.tf43, Try.tf44, Try.tf53, Try.tf65, Try.teq79, Try.call11, Try.call13, Try.call17, Try.call18, Try.call19, Try.call21, Try.call22, Try.call28, Try.call29])
  repeat' (first
    | (with_reducible apply W_seq_k; intro nx hnx)
    | (with_reducible first | apply W_block | apply W_scope)
    | (with_reducible refine W_prune 14335 ?_; simp only [prb, Nat.reducePow, Nat.reduceDiv, Nat.reduceMod, Nat.reduceBEq]; with_reducible apply W_region_l)
    | (with_reducible refine WL_born (by simp) rfl (by simp) ?_; simp only [elemsOf, nl, List.map_cons, List.map_nil, Nat.reduceEqDiff, ↓reduceIte, List.take_succ_cons, List.take_zero, List.range_succ, List.range_zero, List.nil_append, List.cons_append, List.map_append, List.drop_succ_cons, List.drop_zero, Nat.reduceMul, Nat.zero_mul, Nat.one_mul, Nat.reduceAdd])
    | ((first | (with_reducible apply WL_op; intro nx hnx) | with_reducible refine Ev_out ?_ | (with_reducible refine pfresh_k hnm fun nm hnm => ?_; (try simp only [fmb] at hnm)) | (with_reducible refine pborn_im ?_; simp only [elemsOf, nl, List.map_cons, List.map_nil, Nat.reduceEqDiff, ↓reduceIte, List.take_succ_cons, List.take_zero, List.range_succ, List.range_zero, List.nil_append, List.cons_append, List.map_append, List.drop_succ_cons, List.drop_zero, Nat.reduceMul, Nat.zero_mul, Nat.one_mul, Nat.reduceAdd])); try (simp (maxSteps := 2000000) (disch := omega) only [evb, evd, pbuiltin, constPV, pnck, seqK, blockK, scopeK, pbin, pun, ppick, plen, piaddr, pindex, pfield, pslice, pbound, pconv, pelems, pextract, pmm, PV.mem?, PV.one, PV.cells, pageq, peqs, peq1, pmakes, pstore, pbytes, pmark, psrc, pkey, pnile, pcap, pgrow, List.set, Value.cells, ↓popG_eq, ↓pop.eq_1, ↓List.getElem?_map, ↓List.getElem?_cons_zero, ↓List.getElem?_cons_succ, Value.oneCell', Nat.reduceAdd, Nat.reduceMul, Nat.reduceSub, Nat.reduceLeDiff, Nat.reduceEqDiff, ↓reduceIte, ne_eq, reduceCtorEq, forall_const, exists_and_left, exists_eq_left', eq_self, Nat.reduceLT, Int.reduceLT, Int.reduceLE, Int.reduceToNat, Int.reduceAdd, Int.reduceSub, Int.reduceNeg, hnm, Try.tf0, Try.tf1, Try.tf3, Try.tf4, Try.tf5, Try.tf9, Try.tf22, Try.tf28, Try.tf33, Try.tf34, Try.tf35, Try.tf43, Try.tf44, Try.tf53, Try.tf65, Try.teq79, Try.call11, Try.call13, Try.call17, Try.call18, Try.call19, Try.call21, Try.call22, Try.call28, Try.call29]); repeat (refine And.intro (by omega) ?_))
    | ((with_reducible first | apply WL_nil | apply W_label | apply W_skip | apply W_exit | apply W_ret); try simp only [seqK, blockK, scopeK, ↓reduceIte, Nat.reduceEqDiff])
    | (with_reducible apply pguard_intro <;> (intro hc; (try simp only [hcb, reduceCtorEq, forall_const, ne_eq] at hc); first | (exfalso; omega) | (exfalso; exact hc trivial) | refine Ev_in ?_))
    | (with_reducible apply W_cond_k; intro _ _ ea eb; (simp only [condK, cob, opnd, constPV, Nat.reduceEqDiff, Nat.reduceLT, ↓reduceIte, hcb, reduceCtorEq, forall_const, ne_eq]); subst ea eb; first | (refine ⟨fun hc => ?_, fun hc => ?_⟩ <;> first | (exfalso; omega) | (exfalso; exact hc trivial) | skip) | skip)
    | (with_reducible apply hnx; clear hnx nx)
    | (with_reducible refine And.intro (by omega) ?_)
    | (with_reducible refine And.intro ?_ ?_)
    | (clear hnx nx; with_reducible apply hnx; clear hnx nx)
    | (clear hnx nx; clear hnx nx; with_reducible apply hnx; clear hnx nx)
    | (clear hnx nx; clear hnx nx; clear hnx nx; with_reducible apply hnx; clear hnx nx))
  refine pcall_k n1 ?_
  rintro _ Ha ⟨a, rfl, hEa⟩ -
  refine Ev_in ?_
  repeat' (first
    | (with_reducible apply W_seq_k; intro nx hnx)
    | (with_reducible first | apply W_block | apply W_scope)
    | (with_reducible refine W_prune 14335 ?_; simp only [prb, Nat.reducePow, Nat.reduceDiv, Nat.reduceMod, Nat.reduceBEq]; with_reducible apply W_region_l)
    | (with_reducible refine WL_born (by simp) rfl (by simp) ?_; simp only [elemsOf, nl, List.map_cons, List.map_nil, Nat.reduceEqDiff, ↓reduceIte, List.take_succ_cons, List.take_zero, List.range_succ, List.range_zero, List.nil_append, List.cons_append, List.map_append, List.drop_succ_cons, List.drop_zero, Nat.reduceMul, Nat.zero_mul, Nat.one_mul, Nat.reduceAdd])
    | ((first | (with_reducible apply WL_op; intro nx hnx) | with_reducible refine Ev_out ?_ | (with_reducible refine pfresh_k hnm fun nm hnm => ?_; (try simp only [fmb] at hnm)) | (with_reducible refine pborn_im ?_; simp only [elemsOf, nl, List.map_cons, List.map_nil, Nat.reduceEqDiff, ↓reduceIte, List.take_succ_cons, List.take_zero, List.range_succ, List.range_zero, List.nil_append, List.cons_append, List.map_append, List.drop_succ_cons, List.drop_zero, Nat.reduceMul, Nat.zero_mul, Nat.one_mul, Nat.reduceAdd])); try (simp (maxSteps := 2000000) (disch := omega) only [evb, evd, pbuiltin, constPV, pnck, seqK, blockK, scopeK, pbin, pun, ppick, plen, piaddr, pindex, pfield, pslice, pbound, pconv, pelems, pextract, pmm, PV.mem?, PV.one, PV.cells, pageq, peqs, peq1, pmakes, pstore, pbytes, pmark, psrc, pkey, pnile, pcap, pgrow, List.set, Value.cells, ↓popG_eq, ↓pop.eq_1, ↓List.getElem?_map, ↓List.getElem?_cons_zero, ↓List.getElem?_cons_succ, Value.oneCell', Nat.reduceAdd, Nat.reduceMul, Nat.reduceSub, Nat.reduceLeDiff, Nat.reduceEqDiff, ↓reduceIte, ne_eq, reduceCtorEq, forall_const, exists_and_left, exists_eq_left', eq_self, Nat.reduceLT, Int.reduceLT, Int.reduceLE, Int.reduceToNat, Int.reduceAdd, Int.reduceSub, Int.reduceNeg, hnm, Try.tf0, Try.tf1, Try.tf3, Try.tf4, Try.tf5, Try.tf9, Try.tf22, Try.tf28, Try.tf33, Try.tf34, Try.tf35, Try.tf43, Try.tf44, Try.tf53, Try.tf65, Try.teq79, Try.call11, Try.call13, Try.call17, Try.call18, Try.call19, Try.call21, Try.call22, Try.call28, Try.call29]); repeat (refine And.intro (by omega) ?_))
    | ((with_reducible first | apply WL_nil | apply W_label | apply W_skip | apply W_exit | apply W_ret); try simp only [seqK, blockK, scopeK, ↓reduceIte, Nat.reduceEqDiff])
    | (with_reducible apply pguard_intro <;> (intro hc; (try simp only [hcb, reduceCtorEq, forall_const, ne_eq] at hc); first | (exfalso; omega) | (exfalso; exact hc trivial) | refine Ev_in ?_))
    | (with_reducible apply W_cond_k; intro _ _ ea eb; (simp only [condK, cob, opnd, constPV, Nat.reduceEqDiff, Nat.reduceLT, ↓reduceIte, hcb, reduceCtorEq, forall_const, ne_eq]); subst ea eb; first | (refine ⟨fun hc => ?_, fun hc => ?_⟩ <;> first | (exfalso; omega) | (exfalso; exact hc trivial) | skip) | skip)
    | (with_reducible apply hnx; clear hnx nx)
    | (with_reducible refine And.intro (by omega) ?_)
    | (with_reducible refine And.intro ?_ ?_)
    | (clear hnx nx; with_reducible apply hnx; clear hnx nx)
    | (clear hnx nx; clear hnx nx; with_reducible apply hnx; clear hnx nx)
    | (clear hnx nx; clear hnx nx; clear hnx nx; with_reducible apply hnx; clear hnx nx))
  refine pcall_k n1 ?_
  rintro _ Hb ⟨b, rfl, hEb⟩ -
  refine Ev_in ?_
  repeat' (first
    | (with_reducible first | apply W_block | apply W_scope)
    | (with_reducible refine W_prune 14335 ?_; simp only [prb, Nat.reducePow, Nat.reduceDiv, Nat.reduceMod, Nat.reduceBEq]; with_reducible apply W_region_l)
    | ((first | (with_reducible apply WL_op; intro nx hnx) | with_reducible refine Ev_out ?_ | (with_reducible refine pfresh_k hnm fun nm hnm => ?_; (try simp only [fmb] at hnm)) | (with_reducible refine pborn_mu hnm fun nm hnm => ?_; (try simp only [fmb] at hnm))); try (simp (maxSteps := 2000000) (disch := omega) only [evb, evd, pbuiltin, constPV, pnck, seqK, blockK, scopeK, pbin, pun, ppick, plen, piaddr, pindex, pfield, pslice, pbound, pconv, pelems, pextract, pmm, PV.mem?, PV.one, PV.cells, pageq, peqs, peq1, pmakes, pstore, pbytes, pmark, psrc, pkey, pnile, pcap, pgrow, List.set, Value.cells, ↓popG_eq, ↓pop.eq_1, ↓List.getElem?_map, ↓List.getElem?_cons_zero, ↓List.getElem?_cons_succ, Value.oneCell', Nat.reduceAdd, Nat.reduceMul, Nat.reduceSub, Nat.reduceLeDiff, Nat.reduceEqDiff, ↓reduceIte, ne_eq, reduceCtorEq, forall_const, exists_and_left, exists_eq_left', eq_self, Nat.reduceLT, Int.reduceLT, Int.reduceLE, Int.reduceToNat, Int.reduceAdd, Int.reduceSub, Int.reduceNeg, hnm, Try.tf0, Try.tf1, Try.tf3, Try.tf4, Try.tf5, Try.tf9, Try.tf22, Try.tf28, Try.tf33, Try.tf34, Try.tf35, Try.tf43, Try.tf44, Try.tf53, Try.tf65, Try.teq79, Try.call11, Try.call13, Try.call17, Try.call18, Try.call19, Try.call21, Try.call22, Try.call28, Try.call29]); repeat (refine And.intro (by omega) ?_))
    | ((with_reducible first | apply WL_nil | apply W_label | apply W_skip | apply W_exit | apply W_ret); try simp only [seqK, blockK, scopeK, ↓reduceIte, Nat.reduceEqDiff])
    | (with_reducible apply pguard_intro <;> (intro hc; (try simp only [hcb, reduceCtorEq, forall_const, ne_eq] at hc); first | (exfalso; omega) | (exfalso; exact hc trivial) | refine Ev_in ?_))
    | (with_reducible apply W_cond_k; intro _ _ ea eb; (simp only [condK, cob, opnd, constPV, Nat.reduceEqDiff, Nat.reduceLT, ↓reduceIte, hcb, reduceCtorEq, forall_const, ne_eq]); subst ea eb; first | (refine ⟨fun hc => ?_, fun hc => ?_⟩ <;> first | (exfalso; omega) | (exfalso; exact hc trivial) | skip) | skip)
    | (with_reducible apply hnx; clear hnx nx)
    | (with_reducible refine And.intro (by omega) ?_)
    | (with_reducible refine And.intro ?_ ?_)
    | (clear hnx nx; with_reducible apply hnx; clear hnx nx)
    | (clear hnx nx; clear hnx nx; with_reducible apply hnx; clear hnx nx)
    | (clear hnx nx; clear hnx nx; clear hnx nx; with_reducible apply hnx; clear hnx nx))
  with_reducible apply W_seq_k
  intro nx hnx
  repeat' (first
    | (with_reducible first | apply W_block | apply W_scope)
    | (with_reducible refine W_prune 14335 ?_; simp only [prb, Nat.reducePow, Nat.reduceDiv, Nat.reduceMod, Nat.reduceBEq]; with_reducible apply W_region_l)
    | ((first | (with_reducible apply WL_op; intro nx hnx) | with_reducible refine Ev_out ?_ | (with_reducible refine pfresh_k hnm fun nm hnm => ?_; (try simp only [fmb] at hnm)) | (with_reducible refine pborn_mu hnm fun nm hnm => ?_; (try simp only [fmb] at hnm))); try (simp (maxSteps := 2000000) (disch := omega) only [evb, evd, pbuiltin, constPV, pnck, seqK, blockK, scopeK, pbin, pun, ppick, plen, piaddr, pindex, pfield, pslice, pbound, pconv, pelems, pextract, pmm, PV.mem?, PV.one, PV.cells, pageq, peqs, peq1, pmakes, pstore, pbytes, pmark, psrc, pkey, pnile, pcap, pgrow, List.set, Value.cells, ↓popG_eq, ↓pop.eq_1, ↓List.getElem?_map, ↓List.getElem?_cons_zero, ↓List.getElem?_cons_succ, Value.oneCell', Nat.reduceAdd, Nat.reduceMul, Nat.reduceSub, Nat.reduceLeDiff, Nat.reduceEqDiff, ↓reduceIte, ne_eq, reduceCtorEq, forall_const, exists_and_left, exists_eq_left', eq_self, Nat.reduceLT, Int.reduceLT, Int.reduceLE, Int.reduceToNat, Int.reduceAdd, Int.reduceSub, Int.reduceNeg, hnm, Try.tf0, Try.tf1, Try.tf3, Try.tf4, Try.tf5, Try.tf9, Try.tf22, Try.tf28, Try.tf33, Try.tf34, Try.tf35, Try.tf43, Try.tf44, Try.tf53, Try.tf65, Try.teq79, Try.call11, Try.call13, Try.call17, Try.call18, Try.call19, Try.call21, Try.call22, Try.call28, Try.call29]); repeat (refine And.intro (by omega) ?_))
    | ((with_reducible first | apply WL_nil | apply W_label | apply W_skip | apply W_exit | apply W_ret); try simp only [seqK, blockK, scopeK, ↓reduceIte, Nat.reduceEqDiff])
    | (with_reducible apply pguard_intro <;> (intro hc; (try simp only [hcb, reduceCtorEq, forall_const, ne_eq] at hc); first | (exfalso; omega) | (exfalso; exact hc trivial) | refine Ev_in ?_))
    | (with_reducible apply W_cond_k; intro _ _ ea eb; (simp only [condK, cob, opnd, constPV, Nat.reduceEqDiff, Nat.reduceLT, ↓reduceIte, hcb, reduceCtorEq, forall_const, ne_eq]); subst ea eb; first | (refine ⟨fun hc => ?_, fun hc => ?_⟩ <;> first | (exfalso; omega) | (exfalso; exact hc trivial) | skip) | skip)
    | (with_reducible apply hnx; clear hnx nx)
    | (with_reducible refine And.intro (by omega) ?_)
    | (with_reducible refine And.intro ?_ ?_)
    | (clear hnx nx; with_reducible apply hnx; clear hnx nx)
    | (clear hnx nx; clear hnx nx; with_reducible apply hnx; clear hnx nx)
    | (clear hnx nx; clear hnx nx; clear hnx nx; with_reducible apply hnx; clear hnx nx))
  all_goals first
    | exact absurd trivial hc
    | skip
  with_reducible apply W_seq_k
  intro nx hnx
  repeat' (first
    | (with_reducible first | apply W_block | apply W_scope)
    | (with_reducible refine W_prune 14335 ?_; simp only [prb, Nat.reducePow, Nat.reduceDiv, Nat.reduceMod, Nat.reduceBEq]; with_reducible apply W_region_l)
    | ((first | (with_reducible apply WL_op; intro nx hnx) | with_reducible refine Ev_out ?_ | (with_reducible refine pfresh_k hnm fun nm hnm => ?_; (try simp only [fmb] at hnm)) | (with_reducible refine pborn_mu hnm fun nm hnm => ?_; (try simp only [fmb] at hnm))); try (simp (maxSteps := 2000000) (disch := omega) only [evb, evd, pbuiltin, constPV, pnck, seqK, blockK, scopeK, pbin, pun, ppick, plen, piaddr, pindex, pfield, pslice, pbound, pconv, pelems, pextract, pmm, PV.mem?, PV.one, PV.cells, pageq, peqs, peq1, pmakes, pstore, pbytes, pmark, psrc, pkey, pnile, pcap, pgrow, List.set, Value.cells, ↓popG_eq, ↓pop.eq_1, ↓List.getElem?_map, ↓List.getElem?_cons_zero, ↓List.getElem?_cons_succ, Value.oneCell', Nat.reduceAdd, Nat.reduceMul, Nat.reduceSub, Nat.reduceLeDiff, Nat.reduceEqDiff, ↓reduceIte, ne_eq, reduceCtorEq, forall_const, exists_and_left, exists_eq_left', eq_self, Nat.reduceLT, Int.reduceLT, Int.reduceLE, Int.reduceToNat, Int.reduceAdd, Int.reduceSub, Int.reduceNeg, hnm, Try.tf0, Try.tf1, Try.tf3, Try.tf4, Try.tf5, Try.tf9, Try.tf22, Try.tf28, Try.tf33, Try.tf34, Try.tf35, Try.tf43, Try.tf44, Try.tf53, Try.tf65, Try.teq79, Try.call11, Try.call13, Try.call17, Try.call18, Try.call19, Try.call21, Try.call22, Try.call28, Try.call29]); repeat (refine And.intro (by omega) ?_))
    | ((with_reducible first | apply WL_nil | apply W_label | apply W_skip | apply W_exit | apply W_ret); try simp only [seqK, blockK, scopeK, ↓reduceIte, Nat.reduceEqDiff])
    | (with_reducible apply pguard_intro <;> (intro hc; (try simp only [hcb, reduceCtorEq, forall_const, ne_eq] at hc); first | (exfalso; omega) | (exfalso; exact hc trivial) | refine Ev_in ?_))
    | (with_reducible apply W_cond_k; intro _ _ ea eb; (simp only [condK, cob, opnd, constPV, Nat.reduceEqDiff, Nat.reduceLT, ↓reduceIte, hcb, reduceCtorEq, forall_const, ne_eq]); subst ea eb; first | (refine ⟨fun hc => ?_, fun hc => ?_⟩ <;> first | (exfalso; omega) | (exfalso; exact hc trivial) | skip) | skip)
    | (with_reducible apply hnx; clear hnx nx)
    | (with_reducible refine And.intro (by omega) ?_)
    | (with_reducible refine And.intro ?_ ?_)
    | (clear hnx nx; with_reducible apply hnx; clear hnx nx)
    | (clear hnx nx; clear hnx nx; with_reducible apply hnx; clear hnx nx)
    | (clear hnx nx; clear hnx nx; clear hnx nx; with_reducible apply hnx; clear hnx nx))
  all_goals first
    | exact absurd trivial hc
    | skip
  with_reducible apply W_seq_k
  intro nx hnx
  iterate 8 (first
    | (with_reducible apply W_seq_k; intro nx hnx)
    | (with_reducible first | apply W_block | apply W_scope)
    | (with_reducible refine W_prune 14335 ?_; simp only [prb, Nat.reducePow, Nat.reduceDiv, Nat.reduceMod, Nat.reduceBEq]; with_reducible apply W_region_l)
    | ((first | (with_reducible apply WL_op; intro nx hnx) | with_reducible refine Ev_out ?_ | (with_reducible refine pfresh_k hnm fun nm hnm => ?_; (try simp only [fmb] at hnm)) | (with_reducible refine pborn_mu hnm fun nm hnm => ?_; (try simp only [fmb] at hnm))); try (simp (maxSteps := 2000000) (disch := omega) only [evb, evd, pbuiltin, constPV, pnck, seqK, blockK, scopeK, pbin, pun, ppick, plen, piaddr, pindex, pfield, pslice, pbound, pconv, pelems, pextract, pmm, PV.mem?, PV.one, PV.cells, pageq, peqs, peq1, pmakes, pstore, pbytes, pmark, psrc, pkey, pnile, pcap, pgrow, List.set, Value.cells, ↓popG_eq, ↓pop.eq_1, ↓List.getElem?_map, ↓List.getElem?_cons_zero, ↓List.getElem?_cons_succ, Value.oneCell', Nat.reduceAdd, Nat.reduceMul, Nat.reduceSub, Nat.reduceLeDiff, Nat.reduceEqDiff, ↓reduceIte, ne_eq, reduceCtorEq, forall_const, exists_and_left, exists_eq_left', eq_self, Nat.reduceLT, Int.reduceLT, Int.reduceLE, Int.reduceToNat, Int.reduceAdd, Int.reduceSub, Int.reduceNeg, hnm, Try.tf0, Try.tf1, Try.tf3, Try.tf4, Try.tf5, Try.tf9, Try.tf22, Try.tf28, Try.tf33, Try.tf34, Try.tf35, Try.tf43, Try.tf44, Try.tf53, Try.tf65, Try.teq79, Try.call11, Try.call13, Try.call17, Try.call18, Try.call19, Try.call21, Try.call22, Try.call28, Try.call29]); repeat (refine And.intro (by omega) ?_))
    | ((with_reducible first | apply WL_nil | apply W_label | apply W_skip | apply W_exit | apply W_ret); try simp only [seqK, blockK, scopeK, ↓reduceIte, Nat.reduceEqDiff])
    | (with_reducible apply pguard_intro <;> (intro hc; (try simp only [hcb, reduceCtorEq, forall_const, ne_eq] at hc); first | (exfalso; omega) | (exfalso; exact hc trivial) | refine Ev_in ?_))
    | (with_reducible apply W_cond_k; intro _ _ ea eb; (simp only [condK, cob, opnd, constPV, Nat.reduceEqDiff, Nat.reduceLT, ↓reduceIte, hcb, reduceCtorEq, forall_const, ne_eq]); subst ea eb; first | (refine ⟨fun hc => ?_, fun hc => ?_⟩ <;> first | (exfalso; omega) | (exfalso; exact hc trivial) | skip) | skip)
    | (with_reducible apply hnx; clear hnx nx)
    | (with_reducible refine And.intro (by omega) ?_)
    | (with_reducible refine And.intro ?_ ?_)
    | (clear hnx nx; with_reducible apply hnx; clear hnx nx)
    | (clear hnx nx; clear hnx nx; with_reducible apply hnx; clear hnx nx)
    | (clear hnx nx; clear hnx nx; clear hnx nx; with_reducible apply hnx; clear hnx nx))
  · rfl
  with_reducible apply hnx
  clear hnx nx
  refine WL_nd fun nd => ?_
  have hne := two_ne hEb hEa nd
  refine WL_mark (by simp) rfl (by simp [frz, frz1, hne]) (two_frz _ hEb hEa nd) ?_
  clear nd hne
  have s1 : PCalls Try.prog G 11 [.ptr a 0, .list 1 [.val (.int .u8 97)]] Ha _ := send_k G lv1 hEa (by simp) (by simp [newL])
  repeat' (first
    | (with_reducible first | apply W_block | apply W_scope)
    | (with_reducible refine W_prune 14335 ?_; simp only [prb, Nat.reducePow, Nat.reduceDiv, Nat.reduceMod, Nat.reduceBEq]; with_reducible apply W_region_l)
    | ((first | (with_reducible apply WL_op; intro nx hnx) | with_reducible refine Ev_out ?_ | (with_reducible refine pfresh_k hnm fun nm hnm => ?_; (try simp only [fmb] at hnm)) | (with_reducible refine pborn_mu hnm fun nm hnm => ?_; (try simp only [fmb] at hnm))); try (simp (maxSteps := 2000000) (disch := omega) only [evb, evd, pbuiltin, constPV, pnck, seqK, blockK, scopeK, pbin, pun, ppick, plen, piaddr, pindex, pfield, pslice, pbound, pconv, pelems, pextract, pmm, PV.mem?, PV.one, PV.cells, pageq, peqs, peq1, pmakes, pstore, pbytes, pmark, psrc, pkey, pnile, pcap, pgrow, List.set, Value.cells, ↓popG_eq, ↓pop.eq_1, ↓List.getElem?_map, ↓List.getElem?_cons_zero, ↓List.getElem?_cons_succ, Value.oneCell', Nat.reduceAdd, Nat.reduceMul, Nat.reduceSub, Nat.reduceLeDiff, Nat.reduceEqDiff, ↓reduceIte, ne_eq, reduceCtorEq, forall_const, exists_and_left, exists_eq_left', eq_self, Nat.reduceLT, Int.reduceLT, Int.reduceLE, Int.reduceToNat, Int.reduceAdd, Int.reduceSub, Int.reduceNeg, hnm, Try.tf0, Try.tf1, Try.tf3, Try.tf4, Try.tf5, Try.tf9, Try.tf22, Try.tf28, Try.tf33, Try.tf34, Try.tf35, Try.tf43, Try.tf44, Try.tf53, Try.tf65, Try.teq79, Try.call11, Try.call13, Try.call17, Try.call18, Try.call19, Try.call21, Try.call22, Try.call28, Try.call29]); repeat (refine And.intro (by omega) ?_))
    | ((with_reducible first | apply WL_nil | apply W_label | apply W_skip | apply W_exit | apply W_ret); try simp only [seqK, blockK, scopeK, ↓reduceIte, Nat.reduceEqDiff])
    | (with_reducible apply pguard_intro <;> (intro hc; (try simp only [hcb, reduceCtorEq, forall_const, ne_eq] at hc); first | (exfalso; omega) | (exfalso; exact hc trivial) | refine Ev_in ?_))
    | (with_reducible apply W_cond_k; intro _ _ ea eb; (simp only [condK, cob, opnd, constPV, Nat.reduceEqDiff, Nat.reduceLT, ↓reduceIte, hcb, reduceCtorEq, forall_const, ne_eq]); subst ea eb; first | (refine ⟨fun hc => ?_, fun hc => ?_⟩ <;> first | (exfalso; omega) | (exfalso; exact hc trivial) | skip) | skip)
    | (with_reducible apply hnx; clear hnx nx)
    | (with_reducible refine And.intro (by omega) ?_)
    | (with_reducible refine And.intro ?_ ?_)
    | ((refine pcall_mid Hb Ha [] (by simp) s1 ?_; rintro _ Ha1 ⟨rfl, hEa1⟩; refine Ev_in ?_))
    | (clear hnx nx; with_reducible apply hnx; clear hnx nx)
    | (clear hnx nx; clear hnx nx; with_reducible apply hnx; clear hnx nx)
    | (clear hnx nx; clear hnx nx; clear hnx nx; with_reducible apply hnx; clear hnx nx))
  clear hEa s1
  with_reducible apply W_seq_k
  intro nx hnx
  iterate 8 (first
    | (with_reducible apply W_seq_k; intro nx hnx)
    | (with_reducible first | apply W_block | apply W_scope)
    | (with_reducible refine W_prune 14335 ?_; simp only [prb, Nat.reducePow, Nat.reduceDiv, Nat.reduceMod, Nat.reduceBEq]; with_reducible apply W_region_l)
    | ((first | (with_reducible apply WL_op; intro nx hnx) | with_reducible refine Ev_out ?_ | (with_reducible refine pfresh_k hnm fun nm hnm => ?_; (try simp only [fmb] at hnm)) | (with_reducible refine pborn_mu hnm fun nm hnm => ?_; (try simp only [fmb] at hnm))); try (simp (maxSteps := 2000000) (disch := omega) only [evb, evd, pbuiltin, constPV, pnck, seqK, blockK, scopeK, pbin, pun, ppick, plen, piaddr, pindex, pfield, pslice, pbound, pconv, pelems, pextract, pmm, PV.mem?, PV.one, PV.cells, pageq, peqs, peq1, pmakes, pstore, pbytes, pmark, psrc, pkey, pnile, pcap, pgrow, List.set, Value.cells, ↓popG_eq, ↓pop.eq_1, ↓List.getElem?_map, ↓List.getElem?_cons_zero, ↓List.getElem?_cons_succ, Value.oneCell', Nat.reduceAdd, Nat.reduceMul, Nat.reduceSub, Nat.reduceLeDiff, Nat.reduceEqDiff, ↓reduceIte, ne_eq, reduceCtorEq, forall_const, exists_and_left, exists_eq_left', eq_self, Nat.reduceLT, Int.reduceLT, Int.reduceLE, Int.reduceToNat, Int.reduceAdd, Int.reduceSub, Int.reduceNeg, hnm, Try.tf0, Try.tf1, Try.tf3, Try.tf4, Try.tf5, Try.tf9, Try.tf22, Try.tf28, Try.tf33, Try.tf34, Try.tf35, Try.tf43, Try.tf44, Try.tf53, Try.tf65, Try.teq79, Try.call11, Try.call13, Try.call17, Try.call18, Try.call19, Try.call21, Try.call22, Try.call28, Try.call29]); repeat (refine And.intro (by omega) ?_))
    | ((with_reducible first | apply WL_nil | apply W_label | apply W_skip | apply W_exit | apply W_ret); try simp only [seqK, blockK, scopeK, ↓reduceIte, Nat.reduceEqDiff])
    | (with_reducible apply pguard_intro <;> (intro hc; (try simp only [hcb, reduceCtorEq, forall_const, ne_eq] at hc); first | (exfalso; omega) | (exfalso; exact hc trivial) | refine Ev_in ?_))
    | (with_reducible apply W_cond_k; intro _ _ ea eb; (simp only [condK, cob, opnd, constPV, Nat.reduceEqDiff, Nat.reduceLT, ↓reduceIte, hcb, reduceCtorEq, forall_const, ne_eq]); subst ea eb; first | (refine ⟨fun hc => ?_, fun hc => ?_⟩ <;> first | (exfalso; omega) | (exfalso; exact hc trivial) | skip) | skip)
    | (with_reducible apply hnx; clear hnx nx)
    | (with_reducible refine And.intro (by omega) ?_)
    | (with_reducible refine And.intro ?_ ?_)
    | (clear hnx nx; with_reducible apply hnx; clear hnx nx)
    | (clear hnx nx; clear hnx nx; with_reducible apply hnx; clear hnx nx)
    | (clear hnx nx; clear hnx nx; clear hnx nx; with_reducible apply hnx; clear hnx nx))
  · rfl
  with_reducible apply hnx
  clear hnx nx
  refine WL_nd fun nd => ?_
  have hne := two_ne hEb hEa1 nd
  refine WL_mark (by simp) rfl (by simp [frz, frz1, hne]) (two_frz _ hEb hEa1 nd) ?_
  clear nd hne
  have s2 : PCalls Try.prog G 11 [.ptr a 0, .list 1 [.val (.int .u8 98)]] Ha1 _ := send_k G lv2 hEa1 (by simp) (by simp [newL])
  repeat' (first
    | (with_reducible first | apply W_block | apply W_scope)
    | (with_reducible refine W_prune 14335 ?_; simp only [prb, Nat.reducePow, Nat.reduceDiv, Nat.reduceMod, Nat.reduceBEq]; with_reducible apply W_region_l)
    | ((first | (with_reducible apply WL_op; intro nx hnx) | with_reducible refine Ev_out ?_ | (with_reducible refine pfresh_k hnm fun nm hnm => ?_; (try simp only [fmb] at hnm)) | (with_reducible refine pborn_mu hnm fun nm hnm => ?_; (try simp only [fmb] at hnm))); try (simp (maxSteps := 2000000) (disch := omega) only [evb, evd, pbuiltin, constPV, pnck, seqK, blockK, scopeK, pbin, pun, ppick, plen, piaddr, pindex, pfield, pslice, pbound, pconv, pelems, pextract, pmm, PV.mem?, PV.one, PV.cells, pageq, peqs, peq1, pmakes, pstore, pbytes, pmark, psrc, pkey, pnile, pcap, pgrow, List.set, Value.cells, ↓popG_eq, ↓pop.eq_1, ↓List.getElem?_map, ↓List.getElem?_cons_zero, ↓List.getElem?_cons_succ, Value.oneCell', Nat.reduceAdd, Nat.reduceMul, Nat.reduceSub, Nat.reduceLeDiff, Nat.reduceEqDiff, ↓reduceIte, ne_eq, reduceCtorEq, forall_const, exists_and_left, exists_eq_left', eq_self, Nat.reduceLT, Int.reduceLT, Int.reduceLE, Int.reduceToNat, Int.reduceAdd, Int.reduceSub, Int.reduceNeg, hnm, Try.tf0, Try.tf1, Try.tf3, Try.tf4, Try.tf5, Try.tf9, Try.tf22, Try.tf28, Try.tf33, Try.tf34, Try.tf35, Try.tf43, Try.tf44, Try.tf53, Try.tf65, Try.teq79, Try.call11, Try.call13, Try.call17, Try.call18, Try.call19, Try.call21, Try.call22, Try.call28, Try.call29]); repeat (refine And.intro (by omega) ?_))
    | ((with_reducible first | apply WL_nil | apply W_label | apply W_skip | apply W_exit | apply W_ret); try simp only [seqK, blockK, scopeK, ↓reduceIte, Nat.reduceEqDiff])
    | (with_reducible apply pguard_intro <;> (intro hc; (try simp only [hcb, reduceCtorEq, forall_const, ne_eq] at hc); first | (exfalso; omega) | (exfalso; exact hc trivial) | refine Ev_in ?_))
    | (with_reducible apply W_cond_k; intro _ _ ea eb; (simp only [condK, cob, opnd, constPV, Nat.reduceEqDiff, Nat.reduceLT, ↓reduceIte, hcb, reduceCtorEq, forall_const, ne_eq]); subst ea eb; first | (refine ⟨fun hc => ?_, fun hc => ?_⟩ <;> first | (exfalso; omega) | (exfalso; exact hc trivial) | skip) | skip)
    | (with_reducible apply hnx; clear hnx nx)
    | (with_reducible refine And.intro (by omega) ?_)
    | (with_reducible refine And.intro ?_ ?_)
    | ((refine pcall_mid Hb Ha1 [] (by simp) s2 ?_; rintro _ Ha2 ⟨rfl, hEa2⟩; refine Ev_in ?_))
    | (clear hnx nx; with_reducible apply hnx; clear hnx nx)
    | (clear hnx nx; clear hnx nx; with_reducible apply hnx; clear hnx nx)
    | (clear hnx nx; clear hnx nx; clear hnx nx; with_reducible apply hnx; clear hnx nx))
  clear hEa1 s2
  with_reducible apply W_seq_k
  intro nx hnx
  iterate 8 (first
    | (with_reducible apply W_seq_k; intro nx hnx)
    | (with_reducible first | apply W_block | apply W_scope)
    | (with_reducible refine W_prune 14335 ?_; simp only [prb, Nat.reducePow, Nat.reduceDiv, Nat.reduceMod, Nat.reduceBEq]; with_reducible apply W_region_l)
    | ((first | (with_reducible apply WL_op; intro nx hnx) | with_reducible refine Ev_out ?_ | (with_reducible refine pfresh_k hnm fun nm hnm => ?_; (try simp only [fmb] at hnm)) | (with_reducible refine pborn_mu hnm fun nm hnm => ?_; (try simp only [fmb] at hnm))); try (simp (maxSteps := 2000000) (disch := omega) only [evb, evd, pbuiltin, constPV, pnck, seqK, blockK, scopeK, pbin, pun, ppick, plen, piaddr, pindex, pfield, pslice, pbound, pconv, pelems, pextract, pmm, PV.mem?, PV.one, PV.cells, pageq, peqs, peq1, pmakes, pstore, pbytes, pmark, psrc, pkey, pnile, pcap, pgrow, List.set, Value.cells, ↓popG_eq, ↓pop.eq_1, ↓List.getElem?_map, ↓List.getElem?_cons_zero, ↓List.getElem?_cons_succ, Value.oneCell', Nat.reduceAdd, Nat.reduceMul, Nat.reduceSub, Nat.reduceLeDiff, Nat.reduceEqDiff, ↓reduceIte, ne_eq, reduceCtorEq, forall_const, exists_and_left, exists_eq_left', eq_self, Nat.reduceLT, Int.reduceLT, Int.reduceLE, Int.reduceToNat, Int.reduceAdd, Int.reduceSub, Int.reduceNeg, hnm, Try.tf0, Try.tf1, Try.tf3, Try.tf4, Try.tf5, Try.tf9, Try.tf22, Try.tf28, Try.tf33, Try.tf34, Try.tf35, Try.tf43, Try.tf44, Try.tf53, Try.tf65, Try.teq79, Try.call11, Try.call13, Try.call17, Try.call18, Try.call19, Try.call21, Try.call22, Try.call28, Try.call29]); repeat (refine And.intro (by omega) ?_))
    | ((with_reducible first | apply WL_nil | apply W_label | apply W_skip | apply W_exit | apply W_ret); try simp only [seqK, blockK, scopeK, ↓reduceIte, Nat.reduceEqDiff])
    | (with_reducible apply pguard_intro <;> (intro hc; (try simp only [hcb, reduceCtorEq, forall_const, ne_eq] at hc); first | (exfalso; omega) | (exfalso; exact hc trivial) | refine Ev_in ?_))
    | (with_reducible apply W_cond_k; intro _ _ ea eb; (simp only [condK, cob, opnd, constPV, Nat.reduceEqDiff, Nat.reduceLT, ↓reduceIte, hcb, reduceCtorEq, forall_const, ne_eq]); subst ea eb; first | (refine ⟨fun hc => ?_, fun hc => ?_⟩ <;> first | (exfalso; omega) | (exfalso; exact hc trivial) | skip) | skip)
    | (with_reducible apply hnx; clear hnx nx)
    | (with_reducible refine And.intro (by omega) ?_)
    | (with_reducible refine And.intro ?_ ?_)
    | (clear hnx nx; with_reducible apply hnx; clear hnx nx)
    | (clear hnx nx; clear hnx nx; with_reducible apply hnx; clear hnx nx)
    | (clear hnx nx; clear hnx nx; clear hnx nx; with_reducible apply hnx; clear hnx nx))
  · rfl
  with_reducible apply hnx
  clear hnx nx
  refine WL_nd fun nd => ?_
  have hne := two_ne hEb hEa2 nd
  refine WL_mark (by simp) rfl (by simp [frz, frz1, hne]) (two_frz _ hEb hEa2 nd) ?_
  clear nd hne
  have s3 : PCalls Try.prog G 11 [.ptr a 0, .list 1 [.val (.int .u8 99)]] Ha2 _ := send_k G lv3 hEa2 (by simp) (by simp [newL])
  repeat' (first
    | (with_reducible first | apply W_block | apply W_scope)
    | (with_reducible refine W_prune 14335 ?_; simp only [prb, Nat.reducePow, Nat.reduceDiv, Nat.reduceMod, Nat.reduceBEq]; with_reducible apply W_region_l)
    | ((first | (with_reducible apply WL_op; intro nx hnx) | with_reducible refine Ev_out ?_ | (with_reducible refine pfresh_k hnm fun nm hnm => ?_; (try simp only [fmb] at hnm)) | (with_reducible refine pborn_mu hnm fun nm hnm => ?_; (try simp only [fmb] at hnm))); try (simp (maxSteps := 2000000) (disch := omega) only [evb, evd, pbuiltin, constPV, pnck, seqK, blockK, scopeK, pbin, pun, ppick, plen, piaddr, pindex, pfield, pslice, pbound, pconv, pelems, pextract, pmm, PV.mem?, PV.one, PV.cells, pageq, peqs, peq1, pmakes, pstore, pbytes, pmark, psrc, pkey, pnile, pcap, pgrow, List.set, Value.cells, ↓popG_eq, ↓pop.eq_1, ↓List.getElem?_map, ↓List.getElem?_cons_zero, ↓List.getElem?_cons_succ, Value.oneCell', Nat.reduceAdd, Nat.reduceMul, Nat.reduceSub, Nat.reduceLeDiff, Nat.reduceEqDiff, ↓reduceIte, ne_eq, reduceCtorEq, forall_const, exists_and_left, exists_eq_left', eq_self, Nat.reduceLT, Int.reduceLT, Int.reduceLE, Int.reduceToNat, Int.reduceAdd, Int.reduceSub, Int.reduceNeg, hnm, Try.tf0, Try.tf1, Try.tf3, Try.tf4, Try.tf5, Try.tf9, Try.tf22, Try.tf28, Try.tf33, Try.tf34, Try.tf35, Try.tf43, Try.tf44, Try.tf53, Try.tf65, Try.teq79, Try.call11, Try.call13, Try.call17, Try.call18, Try.call19, Try.call21, Try.call22, Try.call28, Try.call29]); repeat (refine And.intro (by omega) ?_))
    | ((with_reducible first | apply WL_nil | apply W_label | apply W_skip | apply W_exit | apply W_ret); try simp only [seqK, blockK, scopeK, ↓reduceIte, Nat.reduceEqDiff])
    | (with_reducible apply pguard_intro <;> (intro hc; (try simp only [hcb, reduceCtorEq, forall_const, ne_eq] at hc); first | (exfalso; omega) | (exfalso; exact hc trivial) | refine Ev_in ?_))
    | (with_reducible apply W_cond_k; intro _ _ ea eb; (simp only [condK, cob, opnd, constPV, Nat.reduceEqDiff, Nat.reduceLT, ↓reduceIte, hcb, reduceCtorEq, forall_const, ne_eq]); subst ea eb; first | (refine ⟨fun hc => ?_, fun hc => ?_⟩ <;> first | (exfalso; omega) | (exfalso; exact hc trivial) | skip) | skip)
    | (with_reducible apply hnx; clear hnx nx)
    | (with_reducible refine And.intro (by omega) ?_)
    | (with_reducible refine And.intro ?_ ?_)
    | ((refine pcall_mid Hb Ha2 [] (by simp) s3 ?_; rintro _ Ha3 ⟨rfl, hEa3⟩; refine Ev_in ?_))
    | (clear hnx nx; with_reducible apply hnx; clear hnx nx)
    | (clear hnx nx; clear hnx nx; with_reducible apply hnx; clear hnx nx)
    | (clear hnx nx; clear hnx nx; clear hnx nx; with_reducible apply hnx; clear hnx nx))
  clear hEa2 s3
  have o1 := out_k G lv4 hEa3 ⟨by decide, by decide, by decide, by decide⟩ (by decide) (by decide)
  simp only [List.map_cons, List.map_nil] at o1
  have q1 := sealP_len 9 1 0 [97] ⟨by omega, by omega⟩ ⟨by omega, by omega⟩ (by simp)
  have q2 := sealP_len 9 2 0 [98] ⟨by omega, by omega⟩ ⟨by omega, by omega⟩ (by simp)
  have q3 := sealP_len 9 0 2 [] ⟨by omega, by omega⟩ ⟨by omega, by omega⟩ (by simp)
  have q4 := sealP_len 9 3 0 [99] ⟨by omega, by omega⟩ ⟨by omega, by omega⟩ (by simp)
  have i1 := in_k G lv5 hEb (by omega) ⟨by decide, by decide, by decide, by decide⟩
  have l6 := lv6
  have l7 := lv7
  have l8 := lv8
  have l9 := lv9
  have w1 := rbytesP_c G 3 0 [99] ⟨by omega, by omega⟩ ⟨by omega, by omega⟩ (by simp)
  have w2 := rseal_c G 9 (packB 3 0 [99]) (by have := packB_len 3 0 [99] ⟨by omega, by omega⟩ ⟨by omega, by omega⟩ (by simp); omega)
  rw [← sealP] at w2
  generalize sealP 9 1 0 [97] = x1 at *
  generalize sealP 9 2 0 [98] = x2 at *
  generalize sealP 9 0 2 [] = x3 at *
  generalize sealP 9 3 0 [99] = x4 at *
  generalize packB 3 0 [99] = x5 at *
  repeat' (first
    | (with_reducible apply W_seq_k; intro nx hnx)
    | (with_reducible first | apply W_block | apply W_scope)
    | (with_reducible refine W_prune 14335 ?_; simp only [prb, Nat.reducePow, Nat.reduceDiv, Nat.reduceMod, Nat.reduceBEq]; with_reducible apply W_region_l)
    | ((first | (with_reducible apply WL_op; intro nx hnx) | with_reducible refine Ev_out ?_ | (with_reducible refine pfresh_k hnm fun nm hnm => ?_; (try simp only [fmb] at hnm)) | (with_reducible refine pborn_mu hnm fun nm hnm => ?_; (try simp only [fmb] at hnm))); try (simp (maxSteps := 2000000) (disch := omega) only [evb, evd, pbuiltin, constPV, pnck, seqK, blockK, scopeK, pbin, pun, ppick, plen, piaddr, pindex, pfield, pslice, pbound, pconv, pelems, pextract, pmm, PV.mem?, PV.one, PV.cells, pageq, peqs, peq1, pmakes, pstore, pbytes, pmark, psrc, pkey, pnile, pcap, pgrow, List.set, Value.cells, ↓popG_eq, ↓pop.eq_1, ↓List.getElem?_map, ↓List.getElem?_cons_zero, ↓List.getElem?_cons_succ, Value.oneCell', Nat.reduceAdd, Nat.reduceMul, Nat.reduceSub, Nat.reduceLeDiff, Nat.reduceEqDiff, ↓reduceIte, ne_eq, reduceCtorEq, forall_const, exists_and_left, exists_eq_left', eq_self, Nat.reduceLT, Int.reduceLT, Int.reduceLE, Int.reduceToNat, Int.reduceAdd, Int.reduceSub, Int.reduceNeg, hnm, Try.tf0, Try.tf1, Try.tf3, Try.tf4, Try.tf5, Try.tf9, Try.tf22, Try.tf28, Try.tf33, Try.tf34, Try.tf35, Try.tf43, Try.tf44, Try.tf53, Try.tf65, Try.teq79, Try.call11, Try.call13, Try.call17, Try.call18, Try.call19, Try.call21, Try.call22, Try.call28, Try.call29]); repeat (refine And.intro (by omega) ?_))
    | ((with_reducible first | apply WL_nil | apply W_label | apply W_skip | apply W_exit | apply W_ret); try simp only [seqK, blockK, scopeK, ↓reduceIte, Nat.reduceEqDiff])
    | (with_reducible apply pguard_intro <;> (intro hc; (try simp only [hcb, reduceCtorEq, forall_const, ne_eq] at hc); first | (exfalso; omega) | (exfalso; exact hc trivial) | refine Ev_in ?_))
    | (with_reducible apply W_cond_k; intro _ _ ea eb; (simp only [condK, cob, opnd, constPV, Nat.reduceEqDiff, Nat.reduceLT, ↓reduceIte, hcb, reduceCtorEq, forall_const, ne_eq]); subst ea eb; first | (refine ⟨fun hc => ?_, fun hc => ?_⟩ <;> first | (exfalso; omega) | (exfalso; exact hc trivial) | skip) | skip)
    | (with_reducible apply hnx; clear hnx nx)
    | (with_reducible refine And.intro (by omega) ?_)
    | (with_reducible refine And.intro ?_ ?_)
    | ((refine pcall_mid Hb Ha3 [] (by simp) o1 ?_; rintro _ Ha4 ⟨rfl, hEa4⟩; refine Ev_in ?_))
    | (clear hnx nx; with_reducible apply hnx; clear hnx nx)
    | (clear hnx nx; clear hnx nx; with_reducible apply hnx; clear hnx nx)
    | (clear hnx nx; clear hnx nx; clear hnx nx; with_reducible apply hnx; clear hnx nx))
  all_goals first
    | (exfalso
       omega)
    | skip
  refine pcall_mid [] Hb Ha4 rfl i1 ?_
  rintro _ Hb1 ⟨rfl, hEHb1⟩
  refine Ev_in ?_
  have i2 := in_k G l6 hEHb1 (by omega) ⟨by decide, by decide, by decide, by decide⟩
  repeat' (first
    | (with_reducible apply W_seq_k; intro nx hnx)
    | (with_reducible first | apply W_block | apply W_scope)
    | (with_reducible refine W_prune 14335 ?_; simp only [prb, Nat.reducePow, Nat.reduceDiv, Nat.reduceMod, Nat.reduceBEq]; with_reducible apply W_region_l)
    | ((first | (with_reducible apply WL_op; intro nx hnx) | with_reducible refine Ev_out ?_ | (with_reducible refine pfresh_k hnm fun nm hnm => ?_; (try simp only [fmb] at hnm)) | (with_reducible refine pborn_mu hnm fun nm hnm => ?_; (try simp only [fmb] at hnm))); try (simp (maxSteps := 2000000) (disch := omega) only [evb, evd, pbuiltin, constPV, pnck, seqK, blockK, scopeK, pbin, pun, ppick, plen, piaddr, pindex, pfield, pslice, pbound, pconv, pelems, pextract, pmm, PV.mem?, PV.one, PV.cells, pageq, peqs, peq1, pmakes, pstore, pbytes, pmark, psrc, pkey, pnile, pcap, pgrow, List.set, Value.cells, ↓popG_eq, ↓pop.eq_1, ↓List.getElem?_map, ↓List.getElem?_cons_zero, ↓List.getElem?_cons_succ, Value.oneCell', Nat.reduceAdd, Nat.reduceMul, Nat.reduceSub, Nat.reduceLeDiff, Nat.reduceEqDiff, ↓reduceIte, ne_eq, reduceCtorEq, forall_const, exists_and_left, exists_eq_left', eq_self, Nat.reduceLT, Int.reduceLT, Int.reduceLE, Int.reduceToNat, Int.reduceAdd, Int.reduceSub, Int.reduceNeg, hnm, Try.tf0, Try.tf1, Try.tf3, Try.tf4, Try.tf5, Try.tf9, Try.tf22, Try.tf28, Try.tf33, Try.tf34, Try.tf35, Try.tf43, Try.tf44, Try.tf53, Try.tf65, Try.teq79, Try.call11, Try.call13, Try.call17, Try.call18, Try.call19, Try.call21, Try.call22, Try.call28, Try.call29]); repeat (refine And.intro (by omega) ?_))
    | ((with_reducible first | apply WL_nil | apply W_label | apply W_skip | apply W_exit | apply W_ret); try simp only [seqK, blockK, scopeK, ↓reduceIte, Nat.reduceEqDiff])
    | (with_reducible apply pguard_intro <;> (intro hc; (try simp only [hcb, reduceCtorEq, forall_const, ne_eq] at hc); first | (exfalso; omega) | (exfalso; exact hc trivial) | refine Ev_in ?_))
    | (with_reducible apply W_cond_k; intro _ _ ea eb; (simp only [condK, cob, opnd, constPV, Nat.reduceEqDiff, Nat.reduceLT, ↓reduceIte, hcb, reduceCtorEq, forall_const, ne_eq]); subst ea eb; first | (refine ⟨fun hc => ?_, fun hc => ?_⟩ <;> first | (exfalso; omega) | (exfalso; exact hc trivial) | skip) | skip)
    | (with_reducible apply hnx; clear hnx nx)
    | (with_reducible refine And.intro (by omega) ?_)
    | (with_reducible refine And.intro ?_ ?_)
    | (clear hnx nx; with_reducible apply hnx; clear hnx nx)
    | (clear hnx nx; clear hnx nx; with_reducible apply hnx; clear hnx nx)
    | (clear hnx nx; clear hnx nx; clear hnx nx; with_reducible apply hnx; clear hnx nx))
  refine pcall_mid [] Hb1 Ha4 rfl i2 ?_
  rintro _ Hb2 ⟨rfl, hEHb2⟩
  refine Ev_in ?_
  have o2 := out_k G l7 hEHb2 ⟨by decide, by decide, by decide, by decide⟩ (by decide) (by decide)
  repeat' (first
    | (with_reducible apply W_seq_k; intro nx hnx)
    | (with_reducible first | apply W_block | apply W_scope)
    | (with_reducible refine W_prune 14335 ?_; simp only [prb, Nat.reducePow, Nat.reduceDiv, Nat.reduceMod, Nat.reduceBEq]; with_reducible apply W_region_l)
    | ((first | (with_reducible apply WL_op; intro nx hnx) | with_reducible refine Ev_out ?_ | (with_reducible refine pfresh_k hnm fun nm hnm => ?_; (try simp only [fmb] at hnm)) | (with_reducible refine pborn_mu hnm fun nm hnm => ?_; (try simp only [fmb] at hnm))); try (simp (maxSteps := 2000000) (disch := omega) only [evb, evd, pbuiltin, constPV, pnck, seqK, blockK, scopeK, pbin, pun, ppick, plen, piaddr, pindex, pfield, pslice, pbound, pconv, pelems, pextract, pmm, PV.mem?, PV.one, PV.cells, pageq, peqs, peq1, pmakes, pstore, pbytes, pmark, psrc, pkey, pnile, pcap, pgrow, List.set, Value.cells, ↓popG_eq, ↓pop.eq_1, ↓List.getElem?_map, ↓List.getElem?_cons_zero, ↓List.getElem?_cons_succ, Value.oneCell', Nat.reduceAdd, Nat.reduceMul, Nat.reduceSub, Nat.reduceLeDiff, Nat.reduceEqDiff, ↓reduceIte, ne_eq, reduceCtorEq, forall_const, exists_and_left, exists_eq_left', eq_self, Nat.reduceLT, Int.reduceLT, Int.reduceLE, Int.reduceToNat, Int.reduceAdd, Int.reduceSub, Int.reduceNeg, hnm, Try.tf0, Try.tf1, Try.tf3, Try.tf4, Try.tf5, Try.tf9, Try.tf22, Try.tf28, Try.tf33, Try.tf34, Try.tf35, Try.tf43, Try.tf44, Try.tf53, Try.tf65, Try.teq79, Try.call11, Try.call13, Try.call17, Try.call18, Try.call19, Try.call21, Try.call22, Try.call28, Try.call29]); repeat (refine And.intro (by omega) ?_))
    | ((with_reducible first | apply WL_nil | apply W_label | apply W_skip | apply W_exit | apply W_ret); try simp only [seqK, blockK, scopeK, ↓reduceIte, Nat.reduceEqDiff])
    | (with_reducible apply pguard_intro <;> (intro hc; (try simp only [hcb, reduceCtorEq, forall_const, ne_eq] at hc); first | (exfalso; omega) | (exfalso; exact hc trivial) | refine Ev_in ?_))
    | (with_reducible apply W_cond_k; intro _ _ ea eb; (simp only [condK, cob, opnd, constPV, Nat.reduceEqDiff, Nat.reduceLT, ↓reduceIte, hcb, reduceCtorEq, forall_const, ne_eq]); subst ea eb; first | (refine ⟨fun hc => ?_, fun hc => ?_⟩ <;> first | (exfalso; omega) | (exfalso; exact hc trivial) | skip) | skip)
    | (with_reducible apply hnx; clear hnx nx)
    | (with_reducible refine And.intro (by omega) ?_)
    | (with_reducible refine And.intro ?_ ?_)
    | (clear hnx nx; with_reducible apply hnx; clear hnx nx)
    | (clear hnx nx; clear hnx nx; with_reducible apply hnx; clear hnx nx)
    | (clear hnx nx; clear hnx nx; clear hnx nx; with_reducible apply hnx; clear hnx nx))
  refine pcall_mid [] Hb2 Ha4 rfl o2 ?_
  rintro _ Hb3 ⟨rfl, hEHb3⟩
  refine Ev_in ?_
  have i3 := in_k G l8 hEa4 (by omega) ⟨by decide, by decide, by decide, by decide⟩
  repeat' (first
    | (with_reducible apply W_seq_k; intro nx hnx)
    | (with_reducible first | apply W_block | apply W_scope)
    | (with_reducible refine W_prune 14335 ?_; simp only [prb, Nat.reducePow, Nat.reduceDiv, Nat.reduceMod, Nat.reduceBEq]; with_reducible apply W_region_l)
    | ((first | (with_reducible apply WL_op; intro nx hnx) | with_reducible refine Ev_out ?_ | (with_reducible refine pfresh_k hnm fun nm hnm => ?_; (try simp only [fmb] at hnm)) | (with_reducible refine pborn_mu hnm fun nm hnm => ?_; (try simp only [fmb] at hnm))); try (simp (maxSteps := 2000000) (disch := omega) only [evb, evd, pbuiltin, constPV, pnck, seqK, blockK, scopeK, pbin, pun, ppick, plen, piaddr, pindex, pfield, pslice, pbound, pconv, pelems, pextract, pmm, PV.mem?, PV.one, PV.cells, pageq, peqs, peq1, pmakes, pstore, pbytes, pmark, psrc, pkey, pnile, pcap, pgrow, List.set, Value.cells, ↓popG_eq, ↓pop.eq_1, ↓List.getElem?_map, ↓List.getElem?_cons_zero, ↓List.getElem?_cons_succ, Value.oneCell', Nat.reduceAdd, Nat.reduceMul, Nat.reduceSub, Nat.reduceLeDiff, Nat.reduceEqDiff, ↓reduceIte, ne_eq, reduceCtorEq, forall_const, exists_and_left, exists_eq_left', eq_self, Nat.reduceLT, Int.reduceLT, Int.reduceLE, Int.reduceToNat, Int.reduceAdd, Int.reduceSub, Int.reduceNeg, hnm, Try.tf0, Try.tf1, Try.tf3, Try.tf4, Try.tf5, Try.tf9, Try.tf22, Try.tf28, Try.tf33, Try.tf34, Try.tf35, Try.tf43, Try.tf44, Try.tf53, Try.tf65, Try.teq79, Try.call11, Try.call13, Try.call17, Try.call18, Try.call19, Try.call21, Try.call22, Try.call28, Try.call29]); repeat (refine And.intro (by omega) ?_))
    | ((with_reducible first | apply WL_nil | apply W_label | apply W_skip | apply W_exit | apply W_ret); try simp only [seqK, blockK, scopeK, ↓reduceIte, Nat.reduceEqDiff])
    | (with_reducible apply pguard_intro <;> (intro hc; (try simp only [hcb, reduceCtorEq, forall_const, ne_eq] at hc); first | (exfalso; omega) | (exfalso; exact hc trivial) | refine Ev_in ?_))
    | (with_reducible apply W_cond_k; intro _ _ ea eb; (simp only [condK, cob, opnd, constPV, Nat.reduceEqDiff, Nat.reduceLT, ↓reduceIte, hcb, reduceCtorEq, forall_const, ne_eq]); subst ea eb; first | (refine ⟨fun hc => ?_, fun hc => ?_⟩ <;> first | (exfalso; omega) | (exfalso; exact hc trivial) | skip) | skip)
    | (with_reducible apply hnx; clear hnx nx)
    | (with_reducible refine And.intro (by omega) ?_)
    | (with_reducible refine And.intro ?_ ?_)
    | (clear hnx nx; with_reducible apply hnx; clear hnx nx)
    | (clear hnx nx; clear hnx nx; with_reducible apply hnx; clear hnx nx)
    | (clear hnx nx; clear hnx nx; clear hnx nx; with_reducible apply hnx; clear hnx nx))
  all_goals first
    | exact absurd trivial hc
    | exact isByte_pbyte _
    | exact (rfl : Try.prog.underlying 5 = some (TypeDesc.int IntKind.u8))
    | (exfalso
       omega)
    | (exfalso
       revert hc
       decide)
    | skip
  refine pcall_mid Hb3 Ha4 [] (by simp) i3 ?_
  rintro _ Ha5 ⟨rfl, hEa5⟩
  refine Ev_in ?_
  have o3 := out_k G l9 hEa5 ⟨by decide, by decide, by decide, by decide⟩ (by decide) (by decide)
  repeat' (first
    | (with_reducible apply W_seq_k; intro nx hnx)
    | (with_reducible first | apply W_block | apply W_scope)
    | (with_reducible refine W_prune 14335 ?_; simp only [prb, Nat.reducePow, Nat.reduceDiv, Nat.reduceMod, Nat.reduceBEq]; with_reducible apply W_region_l)
    | ((first | (with_reducible apply WL_op; intro nx hnx) | with_reducible refine Ev_out ?_ | (with_reducible refine pfresh_k hnm fun nm hnm => ?_; (try simp only [fmb] at hnm)) | (with_reducible refine pborn_mu hnm fun nm hnm => ?_; (try simp only [fmb] at hnm))); try (simp (maxSteps := 2000000) (disch := omega) only [evb, evd, pbuiltin, constPV, pnck, seqK, blockK, scopeK, pbin, pun, ppick, plen, piaddr, pindex, pfield, pslice, pbound, pconv, pelems, pextract, pmm, PV.mem?, PV.one, PV.cells, pageq, peqs, peq1, pmakes, pstore, pbytes, pmark, psrc, pkey, pnile, pcap, pgrow, List.set, Value.cells, ↓popG_eq, ↓pop.eq_1, ↓List.getElem?_map, ↓List.getElem?_cons_zero, ↓List.getElem?_cons_succ, Value.oneCell', Nat.reduceAdd, Nat.reduceMul, Nat.reduceSub, Nat.reduceLeDiff, Nat.reduceEqDiff, ↓reduceIte, ne_eq, reduceCtorEq, forall_const, exists_and_left, exists_eq_left', eq_self, Nat.reduceLT, Int.reduceLT, Int.reduceLE, Int.reduceToNat, Int.reduceAdd, Int.reduceSub, Int.reduceNeg, hnm, Try.tf0, Try.tf1, Try.tf3, Try.tf4, Try.tf5, Try.tf9, Try.tf22, Try.tf28, Try.tf33, Try.tf34, Try.tf35, Try.tf43, Try.tf44, Try.tf53, Try.tf65, Try.teq79, Try.call11, Try.call13, Try.call17, Try.call18, Try.call19, Try.call21, Try.call22, Try.call28, Try.call29]); repeat (refine And.intro (by omega) ?_))
    | ((with_reducible first | apply WL_nil | apply W_label | apply W_skip | apply W_exit | apply W_ret); try simp only [seqK, blockK, scopeK, ↓reduceIte, Nat.reduceEqDiff])
    | (with_reducible apply pguard_intro <;> (intro hc; (try simp only [hcb, reduceCtorEq, forall_const, ne_eq] at hc); first | (exfalso; omega) | (exfalso; exact hc trivial) | refine Ev_in ?_))
    | (with_reducible apply W_cond_k; intro _ _ ea eb; (simp only [condK, cob, opnd, constPV, Nat.reduceEqDiff, Nat.reduceLT, ↓reduceIte, hcb, reduceCtorEq, forall_const, ne_eq]); subst ea eb; first | (refine ⟨fun hc => ?_, fun hc => ?_⟩ <;> first | (exfalso; omega) | (exfalso; exact hc trivial) | skip) | skip)
    | (with_reducible apply hnx; clear hnx nx)
    | (with_reducible refine And.intro (by omega) ?_)
    | (with_reducible refine And.intro ?_ ?_)
    | (clear hnx nx; with_reducible apply hnx; clear hnx nx)
    | (clear hnx nx; clear hnx nx; with_reducible apply hnx; clear hnx nx)
    | (clear hnx nx; clear hnx nx; clear hnx nx; with_reducible apply hnx; clear hnx nx))
  refine pcall_mid Hb3 Ha5 [] (by simp) o3 ?_
  rintro _ Ha6 ⟨rfl, hEa6⟩
  refine Ev_in ?_
  repeat' (first
    | (with_reducible first | apply W_block | apply W_scope)
    | (with_reducible refine W_prune 14335 ?_; simp only [prb, Nat.reducePow, Nat.reduceDiv, Nat.reduceMod, Nat.reduceBEq]; with_reducible apply W_region_l)
    | ((first | (with_reducible apply WL_op; intro nx hnx) | with_reducible refine Ev_out ?_ | (with_reducible refine pfresh_k hnm fun nm hnm => ?_; (try simp only [fmb] at hnm)) | (with_reducible refine pborn_mu hnm fun nm hnm => ?_; (try simp only [fmb] at hnm))); try (simp (maxSteps := 2000000) (disch := omega) only [evb, evd, pbuiltin, constPV, pnck, seqK, blockK, scopeK, pbin, pun, ppick, plen, piaddr, pindex, pfield, pslice, pbound, pconv, pelems, pextract, pmm, PV.mem?, PV.one, PV.cells, pageq, peqs, peq1, pmakes, pstore, pbytes, pmark, psrc, pkey, pnile, pcap, pgrow, List.set, Value.cells, ↓popG_eq, ↓pop.eq_1, ↓List.getElem?_map, ↓List.getElem?_cons_zero, ↓List.getElem?_cons_succ, Value.oneCell', Nat.reduceAdd, Nat.reduceMul, Nat.reduceSub, Nat.reduceLeDiff, Nat.reduceEqDiff, ↓reduceIte, ne_eq, reduceCtorEq, forall_const, exists_and_left, exists_eq_left', eq_self, Nat.reduceLT, Int.reduceLT, Int.reduceLE, Int.reduceToNat, Int.reduceAdd, Int.reduceSub, Int.reduceNeg, hnm, Try.tf0, Try.tf1, Try.tf3, Try.tf4, Try.tf5, Try.tf9, Try.tf22, Try.tf28, Try.tf33, Try.tf34, Try.tf35, Try.tf43, Try.tf44, Try.tf53, Try.tf65, Try.teq79, Try.call11, Try.call13, Try.call17, Try.call18, Try.call19, Try.call21, Try.call22, Try.call28, Try.call29]); repeat (refine And.intro (by omega) ?_))
    | ((with_reducible first | apply WL_nil | apply W_label | apply W_skip | apply W_exit | apply W_ret); try simp only [seqK, blockK, scopeK, ↓reduceIte, Nat.reduceEqDiff])
    | (with_reducible apply pguard_intro <;> (intro hc; (try simp only [hcb, reduceCtorEq, forall_const, ne_eq] at hc); first | (exfalso; omega) | (exfalso; exact hc trivial) | refine Ev_in ?_))
    | (with_reducible apply W_cond_k; intro _ _ ea eb; (simp only [condK, cob, opnd, constPV, Nat.reduceEqDiff, Nat.reduceLT, ↓reduceIte, hcb, reduceCtorEq, forall_const, ne_eq]); subst ea eb; first | (refine ⟨fun hc => ?_, fun hc => ?_⟩ <;> first | (exfalso; omega) | (exfalso; exact hc trivial) | skip) | skip)
    | (with_reducible apply hnx; clear hnx nx)
    | (with_reducible refine And.intro (by omega) ?_)
    | (with_reducible refine And.intro ?_ ?_)
    | (clear hnx nx; with_reducible apply hnx; clear hnx nx)
    | (clear hnx nx; clear hnx nx; with_reducible apply hnx; clear hnx nx)
    | (clear hnx nx; clear hnx nx; clear hnx nx; with_reducible apply hnx; clear hnx nx))
  with_reducible apply W_seq_k
  intro nx hnx
  iterate 6 (first
    | (with_reducible apply W_seq_k; intro nx hnx)
    | (with_reducible first | apply W_block | apply W_scope)
    | (with_reducible refine W_prune 14335 ?_; simp only [prb, Nat.reducePow, Nat.reduceDiv, Nat.reduceMod, Nat.reduceBEq]; with_reducible apply W_region_l)
    | ((first | (with_reducible apply WL_op; intro nx hnx) | with_reducible refine Ev_out ?_ | (with_reducible refine pfresh_k hnm fun nm hnm => ?_; (try simp only [fmb] at hnm)) | (with_reducible refine pborn_mu hnm fun nm hnm => ?_; (try simp only [fmb] at hnm))); try (simp (maxSteps := 2000000) (disch := omega) only [evb, evd, pbuiltin, constPV, pnck, seqK, blockK, scopeK, pbin, pun, ppick, plen, piaddr, pindex, pfield, pslice, pbound, pconv, pelems, pextract, pmm, PV.mem?, PV.one, PV.cells, pageq, peqs, peq1, pmakes, pstore, pbytes, pmark, psrc, pkey, pnile, pcap, pgrow, List.set, Value.cells, ↓popG_eq, ↓pop.eq_1, ↓List.getElem?_map, ↓List.getElem?_cons_zero, ↓List.getElem?_cons_succ, Value.oneCell', Nat.reduceAdd, Nat.reduceMul, Nat.reduceSub, Nat.reduceLeDiff, Nat.reduceEqDiff, ↓reduceIte, ne_eq, reduceCtorEq, forall_const, exists_and_left, exists_eq_left', eq_self, Nat.reduceLT, Int.reduceLT, Int.reduceLE, Int.reduceToNat, Int.reduceAdd, Int.reduceSub, Int.reduceNeg, hnm, Try.tf0, Try.tf1, Try.tf3, Try.tf4, Try.tf5, Try.tf9, Try.tf22, Try.tf28, Try.tf33, Try.tf34, Try.tf35, Try.tf43, Try.tf44, Try.tf53, Try.tf65, Try.teq79, Try.call11, Try.call13, Try.call17, Try.call18, Try.call19, Try.call21, Try.call22, Try.call28, Try.call29]); repeat (refine And.intro (by omega) ?_))
    | ((with_reducible first | apply WL_nil | apply W_label | apply W_skip | apply W_exit | apply W_ret); try simp only [seqK, blockK, scopeK, ↓reduceIte, Nat.reduceEqDiff])
    | (with_reducible apply pguard_intro <;> (intro hc; (try simp only [hcb, reduceCtorEq, forall_const, ne_eq] at hc); first | (exfalso; omega) | (exfalso; exact hc trivial) | refine Ev_in ?_))
    | (with_reducible apply W_cond_k; intro _ _ ea eb; (simp only [condK, cob, opnd, constPV, Nat.reduceEqDiff, Nat.reduceLT, ↓reduceIte, hcb, reduceCtorEq, forall_const, ne_eq]); subst ea eb; first | (refine ⟨fun hc => ?_, fun hc => ?_⟩ <;> first | (exfalso; omega) | (exfalso; exact hc trivial) | skip) | skip)
    | (with_reducible apply hnx; clear hnx nx)
    | (with_reducible refine And.intro (by omega) ?_)
    | (with_reducible refine And.intro ?_ ?_)
    | (clear hnx nx; with_reducible apply hnx; clear hnx nx)
    | (clear hnx nx; clear hnx nx; with_reducible apply hnx; clear hnx nx)
    | (clear hnx nx; clear hnx nx; clear hnx nx; with_reducible apply hnx; clear hnx nx))
  · rfl
  with_reducible apply hnx
  clear hnx nx
  refine WL_nd fun nd => ?_
  have hne := two_ne hEHb3 hEa6 nd
  refine WL_mark (by simp) rfl (by simp [frz, frz1, hne]) (two_frz _ hEHb3 hEa6 nd) ?_
  clear nd hne
  have w1 : PCalls Try.prog G 18 [.agg [.val (.int .i64 3), .val (.int .i64 0), .list 1 [.val (.int .u8 99)]]] [] _ := w1
  have w2 : PCalls Try.prog G 17 [.val (.int .u64 9), pl x5] [] _ := w2
  have m1 := same_c G x4 x4 (by omega)
  rw [decide_eq_true rfl] at m1
  have wt := waiting_c G a _ Ha6 hEa6
  have wf := forged_c G a _ Ha6 hEa6
  simp only [List.length_cons, List.length_nil] at wt wf
  repeat' (first
    | (with_reducible apply W_seq_k; intro nx hnx)
    | (with_reducible first | apply W_block | apply W_scope)
    | (with_reducible refine W_prune 14335 ?_; simp only [prb, Nat.reducePow, Nat.reduceDiv, Nat.reduceMod, Nat.reduceBEq]; with_reducible apply W_region_l)
    | ((first | (with_reducible apply WL_op; intro nx hnx) | with_reducible refine Ev_out ?_ | (with_reducible refine pfresh_k hnm fun nm hnm => ?_; (try simp only [fmb] at hnm)) | (with_reducible refine pborn_mu hnm fun nm hnm => ?_; (try simp only [fmb] at hnm))); try (simp (maxSteps := 2000000) (disch := omega) only [evb, evd, pbuiltin, constPV, pnck, seqK, blockK, scopeK, pbin, pun, ppick, plen, piaddr, pindex, pfield, pslice, pbound, pconv, pelems, pextract, pmm, PV.mem?, PV.one, PV.cells, pageq, peqs, peq1, pmakes, pstore, pbytes, pmark, psrc, pkey, pnile, pcap, pgrow, List.set, Value.cells, ↓popG_eq, ↓pop.eq_1, ↓List.getElem?_map, ↓List.getElem?_cons_zero, ↓List.getElem?_cons_succ, Value.oneCell', Nat.reduceAdd, Nat.reduceMul, Nat.reduceSub, Nat.reduceLeDiff, Nat.reduceEqDiff, ↓reduceIte, ne_eq, reduceCtorEq, forall_const, exists_and_left, exists_eq_left', eq_self, Nat.reduceLT, Int.reduceLT, Int.reduceLE, Int.reduceToNat, Int.reduceAdd, Int.reduceSub, Int.reduceNeg, hnm, Try.tf0, Try.tf1, Try.tf3, Try.tf4, Try.tf5, Try.tf9, Try.tf22, Try.tf28, Try.tf33, Try.tf34, Try.tf35, Try.tf43, Try.tf44, Try.tf53, Try.tf65, Try.teq79, Try.call11, Try.call13, Try.call17, Try.call18, Try.call19, Try.call21, Try.call22, Try.call28, Try.call29]); repeat (refine And.intro (by omega) ?_))
    | ((with_reducible first | apply WL_nil | apply W_label | apply W_skip | apply W_exit | apply W_ret); try simp only [seqK, blockK, scopeK, ↓reduceIte, Nat.reduceEqDiff])
    | (with_reducible apply pguard_intro <;> (intro hc; (try simp only [hcb, reduceCtorEq, forall_const, ne_eq] at hc); first | (exfalso; omega) | (exfalso; exact hc trivial) | refine Ev_in ?_))
    | (with_reducible apply W_cond_k; intro _ _ ea eb; (simp only [condK, cob, opnd, constPV, Nat.reduceEqDiff, Nat.reduceLT, ↓reduceIte, hcb, reduceCtorEq, forall_const, ne_eq]); subst ea eb; first | (refine ⟨fun hc => ?_, fun hc => ?_⟩ <;> first | (exfalso; omega) | (exfalso; exact hc trivial) | skip) | skip)
    | (with_reducible apply hnx; clear hnx nx)
    | (with_reducible refine And.intro (by omega) ?_)
    | (with_reducible refine And.intro ?_ ?_)
    | (with_reducible refine pcall_k (w1) ?_; rintro _ _ ⟨rfl, rfl⟩ -; refine Ev_in ?_)
    | (with_reducible refine pcall_k (w2) ?_; rintro _ _ ⟨rfl, rfl⟩ -; refine Ev_in ?_)
    | (with_reducible refine pcall_k (m1) ?_; rintro _ _ ⟨rfl, rfl⟩ -; refine Ev_in ?_)
    | (((with_reducible refine pcall_mid Hb3 Ha6 [] ?_ wt ?_); (· simp); rintro _ H' ⟨rfl, hq⟩; rw [hq]; clear hq; refine Ev_in ?_))
    | (((with_reducible refine pcall_mid Hb3 Ha6 [] ?_ wf ?_); (· simp); rintro _ H' ⟨rfl, hq⟩; rw [hq]; clear hq; refine Ev_in ?_))
    | (clear hnx nx; with_reducible apply hnx; clear hnx nx)
    | (clear hnx nx; clear hnx nx; with_reducible apply hnx; clear hnx nx)
    | (clear hnx nx; clear hnx nx; clear hnx nx; with_reducible apply hnx; clear hnx nx))
  all_goals first
    | exact absurd trivial hc
    | (exfalso
       revert hc
       decide)
    | (refine hfin _ _ (Fin_ret1 rfl (Sub_nil _) ?_); simp only [List.getD_cons_zero, List.getD_cons_succ, fr_getD_cons, fr_getD_nil, Nat.reduceEqDiff, Nat.reduceLT, ↓reduceIte]; first | trivial | exact ⟨rfl, by trivial⟩ | (simp; done) | (simp; omega))
end Go.PM

namespace Go.PM
open Go.Proofs
attribute [local irreducible] W PCalls pcall pcallI WL
theorem set_map (l : List UInt8) (k : Nat) (v : UInt8) (hk : k < l.length) : List.take k (l.map pbyte) ++ pbyte v :: List.drop (k + 1) (l.map pbyte) = (l.set k v).map pbyte := by
  rw [List.set_eq_take_append_cons_drop, if_pos hk]
  simp
/-- A row is turned no more, beside other objects. -/
theorem Wx_slot {G : Globs} {I : List Int} {N d : Nat} {L : List (Nat × PV)} {n : Int} {e : TypeId} {len : Nat} {xs : List PV} {H : Heap} (hI : n ∉ I) (hl : len = xs.length)
    (hL : ∀ x ∈ L, frz n xs x.2 = x.2) (hH : ∀ x ∈ H, x.1 ≠ n ∧ ∀ u ∈ x.2.cells, frz1 n xs u = u ∧ u.one = true) :
    Wx G I ⟨fr N ((d, .row n 1 len) :: L), (n, ⟨e, true, 1, xs⟩) :: H⟩ ⟨fr N ((d, .list 1 xs) :: L), H⟩ := by
  subst hl
  have h := Wx_bornH (G := G) (I := I) (N := N) (d := d) (L := L) (n := n) (e := e) (es := 1) (len := xs.length) (cells := xs) (H := H) hI (by omega) hL hH
  rwa [elems_all] at h
end Go.PM

namespace Go.PM
open Go.Proofs
section
variable {P : Program} {G : Globs} {I : List Int}
/-- The one heap is in the other, in whatever order. -/
def Hs (H' H : Heap) : Prop := ∃ r, H.Perm (H' ++ r)
theorem Hs.refl (H : Heap) : Hs H H := ⟨[], by simp⟩
theorem Hs.sub {H' H : Heap} (h : Hs H' H) (nd : (names H).Nodup) : Sub H' H := by
  obtain ⟨r, hr⟩ := h
  have h2 : (names (H' ++ r)).Nodup := (List.Perm.nodup_iff (List.Perm.map _ hr)).1 nd
  simp only [names, List.map_append] at h2
  exact ⟨fun x hx => hr.mem_iff.2 (List.mem_append_left _ hx), (List.nodup_append.1 h2).1⟩
theorem Hs.skip {H' H : Heap} (x : Int × PObj) (h : Hs H' H) : Hs H' (x :: H) := by
  obtain ⟨r, hr⟩ := h
  exact ⟨x :: r, (List.Perm.cons x hr).trans List.perm_middle.symm⟩
theorem Hs.cons {H' H : Heap} (x : Int × PObj) (h : Hs H' H) : Hs (x :: H') (x :: H) := by
  obtain ⟨r, hr⟩ := h
  exact ⟨r, List.Perm.cons x hr⟩
theorem Hs.perm {H' H : Heap} (h : H.Perm H') : Hs H' H := ⟨[], by simpa using h⟩
/-- The frame says what is asked, and the heap is the one, in whatever order, perhaps with more. -/
def At (σ τ : PState) : Prop := wkF σ.frame τ.frame ∧ Hs τ.heap σ.heap
theorem At.wk {σ τ : PState} (h : At σ τ) (nd : (names σ.heap).Nodup) : Wk σ τ := ⟨h.1, h.2.sub nd⟩
theorem W_at {c : Code} {K : Exit → PState → Prop} {σ τ : PState} (h : At σ τ) (hw : W P G I c τ K) : W P G I c σ K := W_nd fun nd => W_wk (h.wk nd) hw
theorem At_fr {n : Nat} {l l' : List (Nat × PV)} {H H' : Heap} (h : ∀ x ∈ l', (fr n l).getD x.1 .junk = x.2) (hs : Hs H' H) : At ⟨fr n l, H⟩ ⟨fr n l', H'⟩ := ⟨wkF_fr h, hs⟩
theorem W_loop_at {c : Code} {K : Exit → PState → Prop} {σ : PState} (R : Nat → PState → Prop) (n0 : Nat) (τ0 : PState) (hw : At σ τ0) (h0 : R n0 τ0)
    (round : ∀ n τ, R n τ → ∀ lp : PState → Prop, (∀ σ'' n' τ', n' < n → At σ'' τ' → R n' τ' → lp σ'') → W P G I c τ (seqK lp K)) : W P G I (.loop c) σ K := by
  refine W_at hw (W_loop (fun n σ' => ∃ τ, At σ' τ ∧ R n τ) n0 ⟨τ0, ⟨wkF_refl _, Hs.refl _⟩, h0⟩ ?_)
  rintro n σ' ⟨τ, ha, hr⟩
  exact W_at ha (round n τ hr _ fun σ'' n' τ' hlt ha' hr' => ⟨n', hlt, τ', ha', hr'⟩)
end
section
variable {P : Program} {G : Globs} {f : List PV} {x y : Int × PObj} {A B C D : Heap} {fn : FuncId} {args : List PV} {R : PV → Heap → Prop} {d : Option Tmp} {K : PState → Prop}
/-- Calls to which one of four heaps is handed. -/
theorem pcall_p0 (hc : PCalls P G fn args A R) (hk : ∀ res H, R res H → K (PState.put ⟨f, x :: y :: (H ++ B)⟩ d res)) : @pcallI false P G ⟨f, x :: y :: (A ++ B)⟩ d fn args ⟨K⟩ :=
  pcall_mid [x, y] A B rfl hc hk
theorem pcall_p1 (hc : PCalls P G fn args B R) (hk : ∀ res H, R res H → K (PState.put ⟨f, x :: y :: (A ++ (H ++ C))⟩ d res)) : @pcallI false P G ⟨f, x :: y :: (A ++ (B ++ C))⟩ d fn args ⟨K⟩ :=
  pcall_mid (x :: y :: A) B C rfl hc hk
theorem pcall_p2 (hc : PCalls P G fn args C R) (hk : ∀ res H, R res H → K (PState.put ⟨f, x :: y :: (A ++ (B ++ (H ++ D)))⟩ d res)) : @pcallI false P G ⟨f, x :: y :: (A ++ (B ++ (C ++ D)))⟩ d fn args ⟨K⟩ :=
  pcall_mid (x :: y :: (A ++ B)) C D (by simp) hc (fun res H h => by simpa using hk res H h)
theorem pcall_p3 (hc : PCalls P G fn args D R) (hk : ∀ res H, R res H → K (PState.put ⟨f, x :: y :: (A ++ (B ++ (C ++ H)))⟩ d res)) : @pcallI false P G ⟨f, x :: y :: (A ++ (B ++ (C ++ D)))⟩ d fn args ⟨K⟩ :=
  pcall_mid (x :: y :: (A ++ (B ++ C))) D [] (by simp) hc (fun res H h => by simpa using hk res H h)
end
theorem isRef_frz {e n : Int} {s : RE} {H : Heap} (xs : List PV) (hE : IsRef e s H) (hn : n ∉ names H) : ∀ x ∈ H, x.1 ≠ n ∧ ∀ u ∈ x.2.cells, frz1 n xs u = u ∧ u.one = true := by
  obtain ⟨w, m, rfl⟩ := hE
  simp only [names, List.map_cons, List.map_nil, List.mem_cons, List.not_mem_nil, or_false, not_or] at hn
  exact ref_frz hn.1 hn.2.1 hn.2.2
/-- Two ends and their models in memory. -/
@[reducible] def RunH (a b c d : Int) (ra rb : RE) (H : Heap) : Prop := ∃ Ra Rb Ha Hb, H = Ra ++ (Rb ++ (Hb ++ Ha)) ∧ IsRef c ra Ra ∧ IsRef d rb Rb ∧ IsEnd a (toL ra) Ha ∧ IsEnd b (toL rb) Hb
structure RunI (i : Nat) (key : UInt64) (ra rb : RE) (sent : List (List UInt8)) (to : List Nat) : Prop where
  a : RunE i key ra
  b : RunE i key rb
  len : sent.length ≤ 16 * i
  tolen : to.length = sent.length
  pk : ∀ p ∈ sent, 12 ≤ p.length ∧ p.length ≤ 200000
  two : ∀ t ∈ to, t < 2
@[reducible] def pn (k : Nat) : PV := pint .i64 k
@[reducible] def runL (key : UInt64) (l : List Int) (a b c d nS nT : Int) (sl tl i : Nat) : List (Nat × PV) :=
  [(9, .row nS 1 sl), (10, .row nT 1 tl), (11, pn i), (7, .list 1 [.ptr a 0, .ptr b 0]), (8, .list 1 [.ptr c 0, .ptr d 0]), (1, pq key), (2, .list 1 (l.map (pint .i64)))]
@[reducible] def runO (nS nT : Int) (sent : List (List UInt8)) (to : List Nat) (H : Heap) : Heap := (nT, ⟨3, true, 1, to.map pn⟩) :: (nS, ⟨33, true, 1, sent.map pl⟩) :: H
/-- The state of the law of runs. -/
@[reducible] def runT (key : UInt64) (l : List Int) (a b c d nS nT : Int) (sent : List (List UInt8)) (to : List Nat) (i : Nat) (H : Heap) : PState :=
  ⟨fr 258 (runL key l a b c d nS nT sent.length to.length i), runO nS nT sent to H⟩
theorem run_frz {a b c d n : Int} {ra rb : RE} {H : Heap} (xs : List PV) (hH : RunH a b c d ra rb H) (hn : n ∉ names H) : ∀ x ∈ H, x.1 ≠ n ∧ ∀ u ∈ x.2.cells, frz1 n xs u = u ∧ u.one = true := by
  obtain ⟨Ra, Rb, Ha, Hb, rfl, h1, h2, h3, h4⟩ := hH
  simp only [names, List.map_append, List.mem_append, not_or] at hn
  obtain ⟨k1, k2, k4, k3⟩ := hn
  intro x hx
  rcases List.mem_append.1 hx with hx | hx
  · exact isRef_frz xs h1 k1 x hx
  rcases List.mem_append.1 hx with hx | hx
  · exact isRef_frz xs h2 k2 x hx
  rcases List.mem_append.1 hx with hx | hx
  · exact isEnd_frz xs h4 k4 x hx
  · exact isEnd_frz xs h3 k3 x hx
theorem byte_u8 (x : Int) : ∃ u : UInt8, IntKind.u8.wrap x = (u.toNat : Int) := by
  have h1 : IntKind.u8.wrap x = x % 256 := by
    simp [IntKind.wrap, IntKind.bits, IntKind.signed]
  refine ⟨UInt8.ofNat (x % 256).toNat, ?_⟩
  rw [h1, UInt8.toNat_ofNat']
  omega
attribute [local irreducible] W PCalls pcall pcallI WL
set_option maxRecDepth 100000 in
set_option maxHeartbeats 8000000 in
theorem runs_send (G : Globs) (key : UInt64) (l : List Int) (a b c d nS nT : Int) (sent : List (List UInt8)) (to : List Nat) (i : Nat) (hi : i < 60) (n : Int) (k : Nat) (hk : k < 2) (ra rb : RE) (H : Heap) (hI : RunI i key ra rb sent to) (hH : RunH a b c d ra rb H)
    (K : Exit → PState → Prop) (hK : ∀ σ' ra' rb' H', RunI (i + 1) key ra' rb' sent to → RunH a b c d ra' rb' H' → At σ' (runT key l a b c d nS nT sent to i H') → K .normal σ') :
    W Try.prog G [] (nav (Try.f3.body.getD .skip) [1, 1, 1, 1, 1, 1, 0, 1, 0, 0, 1, 0, 0, 1, 1, 0, 1, 0, 1, 0]) ⟨fr 258 ((13, pn k) :: (12, pint .i64 n) :: runL key l a b c d nS nT sent.length to.length i), runO nS nT sent to H⟩ K := by
  have hnm : True := trivial
  obtain ⟨Ra, Rb, Ha, Hb, rfl, h1, h2, h3, h4⟩ := hH
  obtain ⟨i1, i2, i3, i4, i5, i6⟩ := hI
  obtain ⟨u, hu⟩ := byte_u8 (i : Int)
  obtain ⟨v, hv⟩ := byte_u8 n
  have hb2 : ([u, v] : List UInt8).length ≤ 65536 := by simp
  simp only [Try.f3, nav, Option.getD_some]
  have hk2 : k = 0 ∨ k = 1 := by omega
  rcases hk2 with rfl | rfl
  · have c1 := send_c G a (toL ra) [u, v] (by omega) (by have := (i1.okE (by omega)).1; omega) Ha h3
    have c2 := rsend_c G c ra [u, v] (by omega) (by have := i1.sent; omega) i1.acked Ra h1
    have e1 : (rsendL ra [u, v]).1 = (sendL (toL ra) [u, v]).1 := rfl
    have e2 := toL_send (b := [u, v]) i1.acked
    have e3 := i1.send hb2
    rw [e1] at c2
    rw [← e2] at c1
    generalize (sendL (toL ra) [u, v]).1 = r1 at *
    generalize (rsendL ra [u, v]).2 = ra' at *
    have c1 : PCalls Try.prog G 11 [.ptr a 0, .list 1 [.val (.int .u8 u.toNat), .val (.int .u8 v.toNat)]] Ha _ := c1
    have c2 : PCalls Try.prog G 12 [.ptr c 0, .list 1 [.val (.int .u8 u.toNat), .val (.int .u8 v.toNat)]] Ra _ := c2
    repeat' (first
    | (with_reducible apply W_seq_k; intro nx hnx)
    | (with_reducible first | apply W_block | apply W_scope)
    | (with_reducible refine W_prune 3064992543233415047619612257985451157307474195171508167 ?_; simp only [prb, Nat.reducePow, Nat.reduceDiv, Nat.reduceMod, Nat.reduceBEq]; first | (with_reducible apply W_region_l) | with_reducible refine W_region_draw (id := 29) 3 (.op 0 true (.op 1 true (.op 2 true (.op 3 true (.op 4 true (.op 6 true (.op 7 true (.op 10 true (.alt 5 false (.alt 8 true (.alt 9 true (.op 11 false (.op 12 true (.done))) .stop) .stop) (.alt 8 true (.alt 5 false (.alt 9 true (.op 11 false (.op 12 true (.done))) .stop) (.alt 9 true (.op 5 false (.op 11 false (.op 12 true (.done)))) .stop)) .stop)))))))))) (by kernel_rfl) ?_ | with_reducible refine W_region_draw (id := 15) 3 (.op 0 true (.op 1 true (.op 2 true (.op 3 true (.op 4 true (.op 5 true (.op 6 true (.op 7 true (.op 8 true (.op 9 false (.op 10 true (.done)))))))))))) (by kernel_rfl) ?_ | with_reducible refine W_region_draw (id := 45) 1 (.op 0 true (.op 1 true (.op 2 true (.op 3 true (.op 5 true (.op 6 true (.op 7 true (.op 8 true (.op 9 true (.op 10 true (.op 11 true (.op 12 true (.op 13 true (.op 14 true (.op 15 true (.op 16 true (.op 17 true (.op 18 true (.op 19 true (.op 20 true (.op 4 true (.op 21 true (.op 22 true (.op 23 true (.op 24 true (.op 25 true (.op 26 true (.op 28 true (.op 29 true (.op 30 true (.op 31 true (.op 32 true (.op 33 true (.op 34 true (.op 27 true (.op 35 true (.op 36 true (.done)))))))))))))))))))))))))))))))))))))) (by kernel_rfl) ?_)
    | (with_reducible refine WL_born (by simp) rfl (by simp) ?_; simp only [elemsOf, nl, List.map_cons, List.map_nil, Nat.reduceEqDiff, ↓reduceIte, List.take_succ_cons, List.take_zero, List.range_succ, List.range_zero, List.nil_append, List.cons_append, List.map_append, List.drop_succ_cons, List.drop_zero, Nat.reduceMul, Nat.zero_mul, Nat.one_mul, Nat.reduceAdd])
    | (with_reducible refine WL_bornH (by simp) (by simp) ?_ ?_ ?_; (· simp [frz, frz1, hnm]); (· simp [frz1, hnm, PV.one, Value.oneCell']); simp only [elemsOf, nl, List.map_cons, List.map_nil, Nat.reduceEqDiff, ↓reduceIte, List.take_succ_cons, List.take_zero, List.range_succ, List.range_zero, List.nil_append, List.cons_append, List.map_append, List.drop_succ_cons, List.drop_zero, Nat.reduceMul, Nat.zero_mul, Nat.one_mul, Nat.reduceAdd])
    | ((first | (with_reducible apply WL_op; intro nx hnx) | with_reducible refine Ev_out ?_ | (with_reducible apply popsD_op; intro nx hnx) | (with_reducible refine popsD_alt ?_ ?_; intro nx hnx) | (with_reducible refine pfresh_k hnm fun nm hnm => ?_; (try simp only [fmb] at hnm)) | (with_reducible refine pborn_im ?_; simp only [elemsOf, nl, List.map_cons, List.map_nil, Nat.reduceEqDiff, ↓reduceIte, List.take_succ_cons, List.take_zero, List.range_succ, List.range_zero, List.nil_append, List.cons_append, List.map_append, List.drop_succ_cons, List.drop_zero, Nat.reduceMul, Nat.zero_mul, Nat.one_mul, Nat.reduceAdd]) | (with_reducible refine pmaybe_k ?_; intro bn hbn)); try (simp (maxSteps := 2000000) (disch := omega) only [evb, evd, pbuiltin, constPV, pnck, seqK, blockK, scopeK, pbin, pun, ppick, plen, piaddr, pindex, pfield, pslice, pbound, pconv, pelems, pextract, pmm, PV.mem?, PV.one, PV.cells, pageq, peqs, peq1, pmakes, pstore, pbytes, pmark, psrc, pkey, pnile, pcap, pgrow, List.set, Value.cells, ↓popG_eq, ↓pop.eq_1, ↓List.getElem?_map, ↓List.getElem?_cons_zero, ↓List.getElem?_cons_succ, Value.oneCell', Nat.reduceAdd, Nat.reduceMul, Nat.reduceSub, Nat.reduceLeDiff, Nat.reduceEqDiff, ↓reduceIte, ne_eq, reduceCtorEq, forall_const, exists_and_left, exists_eq_left', eq_self, Nat.reduceLT, Int.reduceLT, Int.reduceLE, Int.reduceToNat, Int.reduceAdd, Int.reduceSub, Int.reduceNeg, hnm, Try.tf0, Try.tf1, Try.tf2, Try.tf3, Try.tf4, Try.tf5, Try.tf7, Try.tf22, Try.tf23, Try.tf24, Try.tf26, Try.tf28, Try.tf31, Try.tf32, Try.tf33, Try.tf34, Try.tf35, Try.tf43, Try.tf44, Try.tf65, Try.teq79, Try.call9, Try.call10, Try.call11, Try.call12, Try.call13, Try.call14, Try.call15, Try.call16, Try.call17, Try.call18, Try.call19, Try.call20, Try.call21, Try.call22, Try.call23, hu, hv]); repeat (refine And.intro (by omega) ?_))
    | ((with_reducible first | apply WL_nil | apply W_label | apply W_skip | apply W_exit | apply W_ret | apply popsD_done); try simp only [seqK, blockK, scopeK, ↓reduceIte, Nat.reduceEqDiff])
    | with_reducible exact popsD_stop
    | (with_reducible apply pguard_intro <;> (intro hc; (try simp only [hcb, reduceCtorEq, forall_const, ne_eq] at hc); first | (exfalso; omega) | (exfalso; exact hc trivial) | refine Ev_in ?_))
    | (with_reducible apply W_cond_k; intro _ _ ea eb; (simp only [condK, cob, opnd, constPV, Nat.reduceEqDiff, Nat.reduceLT, ↓reduceIte, hcb, reduceCtorEq, forall_const, ne_eq]); subst ea eb; first | (refine ⟨fun hc => ?_, fun hc => ?_⟩ <;> first | (exfalso; omega) | (exfalso; exact hc trivial) | skip) | skip)
    | (with_reducible apply hnx; clear hnx nx)
    | (with_reducible refine And.intro (by omega) ?_)
    | (with_reducible refine And.intro ?_ ?_)
    | (((with_reducible refine pcall_p3 c1 ?_); rintro _ Ha' ⟨rfl, hEa⟩; refine Ev_in ?_))
    | (((with_reducible refine pcall_p0 c2 ?_); rintro _ Ra' ⟨rfl, hRa⟩; refine Ev_in ?_))
    | (clear hnx nx; with_reducible apply hnx; clear hnx nx)
    | (clear hnx nx; clear hnx nx; with_reducible apply hnx; clear hnx nx)
    | (clear hnx nx; clear hnx nx; clear hnx nx; with_reducible apply hnx; clear hnx nx))
    all_goals first
      | exact absurd trivial hc
      | (exfalso
         omega)
      | skip
    all_goals
      refine hK _ ra' rb (Ra' ++ (Rb ++ (Hb ++ Ha'))) ⟨e3, i2.up (by omega), by omega, i4, i5, i6⟩ ⟨Ra', Rb, Ha', Hb, rfl, hRa, h2, hEa, h4⟩ ?_
      refine At_fr (by simp only [wkb, Nat.reduceEqDiff, Nat.reduceLT, ↓reduceIte]) ?_
      exact Hs.refl _
  · have c1 := send_c G b (toL rb) [u, v] (by omega) (by have := (i2.okE (by omega)).1; omega) Hb h4
    have c2 := rsend_c G d rb [u, v] (by omega) (by have := i2.sent; omega) i2.acked Rb h2
    have e1 : (rsendL rb [u, v]).1 = (sendL (toL rb) [u, v]).1 := rfl
    have e2 := toL_send (b := [u, v]) i2.acked
    have e3 := i2.send hb2
    rw [e1] at c2
    rw [← e2] at c1
    generalize (sendL (toL rb) [u, v]).1 = r1 at *
    generalize (rsendL rb [u, v]).2 = rb' at *
    have c1 : PCalls Try.prog G 11 [.ptr b 0, .list 1 [.val (.int .u8 u.toNat), .val (.int .u8 v.toNat)]] Hb _ := c1
    have c2 : PCalls Try.prog G 12 [.ptr d 0, .list 1 [.val (.int .u8 u.toNat), .val (.int .u8 v.toNat)]] Rb _ := c2
    repeat' (first
    | (with_reducible apply W_seq_k; intro nx hnx)
    | (with_reducible first | apply W_block | apply W_scope)
    | (with_reducible refine W_prune 3064992543233415047619612257985451157307474195171508167 ?_; simp only [prb, Nat.reducePow, Nat.reduceDiv, Nat.reduceMod, Nat.reduceBEq]; first | (with_reducible apply W_region_l) | with_reducible refine W_region_draw (id := 29) 3 (.op 0 true (.op 1 true (.op 2 true (.op 3 true (.op 4 true (.op 6 true (.op 7 true (.op 10 true (.alt 5 false (.alt 8 true (.alt 9 true (.op 11 false (.op 12 true (.done))) .stop) .stop) (.alt 8 true (.alt 5 false (.alt 9 true (.op 11 false (.op 12 true (.done))) .stop) (.alt 9 true (.op 5 false (.op 11 false (.op 12 true (.done)))) .stop)) .stop)))))))))) (by kernel_rfl) ?_ | with_reducible refine W_region_draw (id := 15) 3 (.op 0 true (.op 1 true (.op 2 true (.op 3 true (.op 4 true (.op 5 true (.op 6 true (.op 7 true (.op 8 true (.op 9 false (.op 10 true (.done)))))))))))) (by kernel_rfl) ?_ | with_reducible refine W_region_draw (id := 45) 1 (.op 0 true (.op 1 true (.op 2 true (.op 3 true (.op 5 true (.op 6 true (.op 7 true (.op 8 true (.op 9 true (.op 10 true (.op 11 true (.op 12 true (.op 13 true (.op 14 true (.op 15 true (.op 16 true (.op 17 true (.op 18 true (.op 19 true (.op 20 true (.op 4 true (.op 21 true (.op 22 true (.op 23 true (.op 24 true (.op 25 true (.op 26 true (.op 28 true (.op 29 true (.op 30 true (.op 31 true (.op 32 true (.op 33 true (.op 34 true (.op 27 true (.op 35 true (.op 36 true (.done)))))))))))))))))))))))))))))))))))))) (by kernel_rfl) ?_)
    | (with_reducible refine WL_born (by simp) rfl (by simp) ?_; simp only [elemsOf, nl, List.map_cons, List.map_nil, Nat.reduceEqDiff, ↓reduceIte, List.take_succ_cons, List.take_zero, List.range_succ, List.range_zero, List.nil_append, List.cons_append, List.map_append, List.drop_succ_cons, List.drop_zero, Nat.reduceMul, Nat.zero_mul, Nat.one_mul, Nat.reduceAdd])
    | (with_reducible refine WL_bornH (by simp) (by simp) ?_ ?_ ?_; (· simp [frz, frz1, hnm]); (· simp [frz1, hnm, PV.one, Value.oneCell']); simp only [elemsOf, nl, List.map_cons, List.map_nil, Nat.reduceEqDiff, ↓reduceIte, List.take_succ_cons, List.take_zero, List.range_succ, List.range_zero, List.nil_append, List.cons_append, List.map_append, List.drop_succ_cons, List.drop_zero, Nat.reduceMul, Nat.zero_mul, Nat.one_mul, Nat.reduceAdd])
    | ((first | (with_reducible apply WL_op; intro nx hnx) | with_reducible refine Ev_out ?_ | (with_reducible apply popsD_op; intro nx hnx) | (with_reducible refine popsD_alt ?_ ?_; intro nx hnx) | (with_reducible refine pfresh_k hnm fun nm hnm => ?_; (try simp only [fmb] at hnm)) | (with_reducible refine pborn_im ?_; simp only [elemsOf, nl, List.map_cons, List.map_nil, Nat.reduceEqDiff, ↓reduceIte, List.take_succ_cons, List.take_zero, List.range_succ, List.range_zero, List.nil_append, List.cons_append, List.map_append, List.drop_succ_cons, List.drop_zero, Nat.reduceMul, Nat.zero_mul, Nat.one_mul, Nat.reduceAdd]) | (with_reducible refine pmaybe_k ?_; intro bn hbn)); try (simp (maxSteps := 2000000) (disch := omega) only [evb, evd, pbuiltin, constPV, pnck, seqK, blockK, scopeK, pbin, pun, ppick, plen, piaddr, pindex, pfield, pslice, pbound, pconv, pelems, pextract, pmm, PV.mem?, PV.one, PV.cells, pageq, peqs, peq1, pmakes, pstore, pbytes, pmark, psrc, pkey, pnile, pcap, pgrow, List.set, Value.cells, ↓popG_eq, ↓pop.eq_1, ↓List.getElem?_map, ↓List.getElem?_cons_zero, ↓List.getElem?_cons_succ, Value.oneCell', Nat.reduceAdd, Nat.reduceMul, Nat.reduceSub, Nat.reduceLeDiff, Nat.reduceEqDiff, ↓reduceIte, ne_eq, reduceCtorEq, forall_const, exists_and_left, exists_eq_left', eq_self, Nat.reduceLT, Int.reduceLT, Int.reduceLE, Int.reduceToNat, Int.reduceAdd, Int.reduceSub, Int.reduceNeg, hnm, Try.tf0, Try.tf1, Try.tf2, Try.tf3, Try.tf4, Try.tf5, Try.tf7, Try.tf22, Try.tf23, Try.tf24, Try.tf26, Try.tf28, Try.tf31, Try.tf32, Try.tf33, Try.tf34, Try.tf35, Try.tf43, Try.tf44, Try.tf65, Try.teq79, Try.call9, Try.call10, Try.call11, Try.call12, Try.call13, Try.call14, Try.call15, Try.call16, Try.call17, Try.call18, Try.call19, Try.call20, Try.call21, Try.call22, Try.call23, hu, hv]); repeat (refine And.intro (by omega) ?_))
    | ((with_reducible first | apply WL_nil | apply W_label | apply W_skip | apply W_exit | apply W_ret | apply popsD_done); try simp only [seqK, blockK, scopeK, ↓reduceIte, Nat.reduceEqDiff])
    | with_reducible exact popsD_stop
    | (with_reducible apply pguard_intro <;> (intro hc; (try simp only [hcb, reduceCtorEq, forall_const, ne_eq] at hc); first | (exfalso; omega) | (exfalso; exact hc trivial) | refine Ev_in ?_))
    | (with_reducible apply W_cond_k; intro _ _ ea eb; (simp only [condK, cob, opnd, constPV, Nat.reduceEqDiff, Nat.reduceLT, ↓reduceIte, hcb, reduceCtorEq, forall_const, ne_eq]); subst ea eb; first | (refine ⟨fun hc => ?_, fun hc => ?_⟩ <;> first | (exfalso; omega) | (exfalso; exact hc trivial) | skip) | skip)
    | (with_reducible apply hnx; clear hnx nx)
    | (with_reducible refine And.intro (by omega) ?_)
    | (with_reducible refine And.intro ?_ ?_)
    | (((with_reducible refine pcall_p2 c1 ?_); rintro _ Hb' ⟨rfl, hEb⟩; refine Ev_in ?_))
    | (((with_reducible refine pcall_p1 c2 ?_); rintro _ Rb' ⟨rfl, hRb⟩; refine Ev_in ?_))
    | (clear hnx nx; with_reducible apply hnx; clear hnx nx)
    | (clear hnx nx; clear hnx nx; with_reducible apply hnx; clear hnx nx)
    | (clear hnx nx; clear hnx nx; clear hnx nx; with_reducible apply hnx; clear hnx nx))
    all_goals first
      | exact absurd trivial hc
      | (exfalso
         omega)
      | skip
    all_goals
      refine hK _ ra rb' (Ra ++ (Rb' ++ (Hb' ++ Ha))) ⟨i1.up (by omega), e3, by omega, i4, i5, i6⟩ ⟨Ra, Rb', Ha, Hb', rfl, h1, hRb, h3, hEb⟩ ?_
      refine At_fr (by simp only [wkb, Nat.reduceEqDiff, Nat.reduceLT, ↓reduceIte]) ?_
      exact Hs.refl _
end Go.PM

namespace Go.PM
open Go.Proofs
attribute [local irreducible] W PCalls pcall pcallI WL
theorem run_ne {nS nT : Int} {sent : List (List UInt8)} {to : List Nat} {H : Heap} (nd : (names (runO nS nT sent to H)).Nodup) : ((nS = nT) = False ∧ (nT = nS) = False) ∧ nS ∉ names H ∧ nT ∉ names H := by
  simp only [runO, names, List.map_cons, List.nodup_cons, List.mem_cons, not_or] at nd
  exact ⟨⟨eq_false fun h => nd.1.1 h.symm, eq_false nd.1.1⟩, nd.2.1, nd.1.2⟩
theorem del_not {H : Heap} {n : Int} (h : n ∉ names H) : del H n = H := by
  induction H with
  | nil => rfl
  | cons x r ih =>
    simp only [names, List.map_cons, List.mem_cons, not_or] at h
    obtain ⟨m, o⟩ := x
    have h1 : ¬ m = n := fun e => h.1 e.symm
    simp only [del, if_neg h1]
    rw [ih h.2]
set_option maxRecDepth 100000 in
set_option maxHeartbeats 8000000 in
theorem runs_sent (G : Globs) (key : UInt64) (l : List Int) (a b c d nS nT : Int) (sent q : List (List UInt8)) (to : List Nat) (i : Nat) (hi : i < 60) (k : Nat) (hk : k < 2) (H : Heap) (hql : q.length ≤ 16) (hsl : sent.length ≤ 1000) (htl : to.length ≤ 1000)
    (K : Exit → PState → Prop) (hK : ∀ σ' nS' nT', At σ' (runT key l a b c d nS' nT' (sent ++ q) (to ++ List.replicate q.length (1 - k)) i H) → K .normal σ') :
    W Try.prog G [] (nav (Try.f3.body.getD .skip) [1, 1, 1, 1, 1, 1, 0, 1, 0, 0, 1, 0, 0, 1, 1, 0, 1, 0, 1, 1, 1, 0, 1, 1, 1]) ⟨fr 258 ((16, .list 1 (q.map pl)) :: (13, pn k) :: runL key l a b c d nS nT sent.length to.length i), runO nS nT sent to H⟩ K := by
  have hnm : True := trivial
  simp only [Try.f3, nav, Option.getD_some]
  repeat' (first
    | (with_reducible apply W_seq_k; intro nx hnx)
    | (with_reducible first | apply W_block | apply W_scope)
    | (with_reducible refine W_prune 3064992543233415047619612257985451157307474195171508167 ?_; simp only [prb, Nat.reducePow, Nat.reduceDiv, Nat.reduceMod, Nat.reduceBEq]; first | (with_reducible apply W_region_l) | with_reducible refine W_region_draw (id := 29) 3 (.op 0 true (.op 1 true (.op 2 true (.op 3 true (.op 4 true (.op 6 true (.op 7 true (.op 10 true (.alt 5 false (.alt 8 true (.alt 9 true (.op 11 false (.op 12 true (.done))) .stop) .stop) (.alt 8 true (.alt 5 false (.alt 9 true (.op 11 false (.op 12 true (.done))) .stop) (.alt 9 true (.op 5 false (.op 11 false (.op 12 true (.done)))) .stop)) .stop)))))))))) (by kernel_rfl) ?_ | with_reducible refine W_region_draw (id := 15) 3 (.op 0 true (.op 1 true (.op 2 true (.op 3 true (.op 4 true (.op 5 true (.op 6 true (.op 7 true (.op 8 true (.op 9 false (.op 10 true (.done)))))))))))) (by kernel_rfl) ?_ | with_reducible refine W_region_draw (id := 45) 1 (.op 0 true (.op 1 true (.op 2 true (.op 3 true (.op 5 true (.op 6 true (.op 7 true (.op 8 true (.op 9 true (.op 10 true (.op 11 true (.op 12 true (.op 13 true (.op 14 true (.op 15 true (.op 16 true (.op 17 true (.op 18 true (.op 19 true (.op 20 true (.op 4 true (.op 21 true (.op 22 true (.op 23 true (.op 24 true (.op 25 true (.op 26 true (.op 28 true (.op 29 true (.op 30 true (.op 31 true (.op 32 true (.op 33 true (.op 34 true (.op 27 true (.op 35 true (.op 36 true (.done)))))))))))))))))))))))))))))))))))))) (by kernel_rfl) ?_)
    | (with_reducible refine WL_born (by simp) rfl (by simp) ?_; simp only [elemsOf, nl, List.map_cons, List.map_nil, Nat.reduceEqDiff, ↓reduceIte, List.take_succ_cons, List.take_zero, List.range_succ, List.range_zero, List.nil_append, List.cons_append, List.map_append, List.drop_succ_cons, List.drop_zero, Nat.reduceMul, Nat.zero_mul, Nat.one_mul, Nat.reduceAdd])
    | ((first | (with_reducible apply WL_op; intro nx hnx) | with_reducible refine Ev_out ?_ | (with_reducible apply popsD_op; intro nx hnx) | (with_reducible refine popsD_alt ?_ ?_; intro nx hnx) | (with_reducible refine pfresh_k hnm fun nm hnm => ?_; (try simp only [fmb] at hnm)) | (with_reducible refine pborn_im ?_; simp only [elemsOf, nl, List.map_cons, List.map_nil, Nat.reduceEqDiff, ↓reduceIte, List.take_succ_cons, List.take_zero, List.range_succ, List.range_zero, List.nil_append, List.cons_append, List.map_append, List.drop_succ_cons, List.drop_zero, Nat.reduceMul, Nat.zero_mul, Nat.one_mul, Nat.reduceAdd]) | (with_reducible refine pmaybe_k ?_; intro bn hbn)); try (simp (maxSteps := 2000000) (disch := omega) only [evb, evd, pbuiltin, constPV, pnck, seqK, blockK, scopeK, pbin, pun, ppick, plen, piaddr, pindex, pfield, pslice, pbound, pconv, pelems, pextract, pmm, PV.mem?, PV.one, PV.cells, pageq, peqs, peq1, pmakes, pstore, pbytes, pmark, psrc, pkey, pnile, pcap, pgrow, List.set, Value.cells, ↓popG_eq, ↓pop.eq_1, ↓List.getElem?_map, ↓List.getElem?_cons_zero, ↓List.getElem?_cons_succ, Value.oneCell', Nat.reduceAdd, Nat.reduceMul, Nat.reduceSub, Nat.reduceLeDiff, Nat.reduceEqDiff, ↓reduceIte, ne_eq, reduceCtorEq, forall_const, exists_and_left, exists_eq_left', eq_self, Nat.reduceLT, Int.reduceLT, Int.reduceLE, Int.reduceToNat, Int.reduceAdd, Int.reduceSub, Int.reduceNeg, hnm, Try.tf0, Try.tf1, Try.tf2, Try.tf3, Try.tf4, Try.tf5, Try.tf7, Try.tf22, Try.tf23, Try.tf24, Try.tf26, Try.tf28, Try.tf31, Try.tf32, Try.tf33, Try.tf34, Try.tf35, Try.tf43, Try.tf44, Try.tf65, Try.teq79, Try.call9, Try.call10, Try.call11, Try.call12, Try.call13, Try.call14, Try.call15, Try.call16, Try.call17, Try.call18, Try.call19, Try.call20, Try.call21, Try.call22, Try.call23]); repeat (refine And.intro (by omega) ?_))
    | ((with_reducible first | apply WL_nil | apply W_label | apply W_skip | apply W_exit | apply W_ret | apply popsD_done); try simp only [seqK, blockK, scopeK, ↓reduceIte, Nat.reduceEqDiff])
    | with_reducible exact popsD_stop
    | (with_reducible apply pguard_intro <;> (intro hc; (try simp only [hcb, reduceCtorEq, forall_const, ne_eq] at hc); first | (exfalso; omega) | (exfalso; exact hc trivial) | refine Ev_in ?_))
    | (with_reducible apply W_cond_k; intro _ _ ea eb; (simp only [condK, cob, opnd, constPV, Nat.reduceEqDiff, Nat.reduceLT, ↓reduceIte, hcb, reduceCtorEq, forall_const, ne_eq]); subst ea eb; first | (refine ⟨fun hc => ?_, fun hc => ?_⟩ <;> first | (exfalso; omega) | (exfalso; exact hc trivial) | skip) | skip)
    | (with_reducible apply hnx; clear hnx nx)
    | (with_reducible refine And.intro (by omega) ?_)
    | (with_reducible refine And.intro ?_ ?_)
    | (clear hnx nx; with_reducible apply hnx; clear hnx nx)
    | (clear hnx nx; clear hnx nx; with_reducible apply hnx; clear hnx nx)
    | (clear hnx nx; clear hnx nx; clear hnx nx; with_reducible apply hnx; clear hnx nx))
  refine W_loop_at (fun z τ => ∃ (j : Nat) (nS' nT' : Int) (s' : List (List UInt8)) (t' : List Nat), j ≤ q.length ∧ z = q.length - j ∧ s' = sent ++ q.take j ∧ t' = to ++ List.replicate j (1 - k) ∧
      τ = ⟨fr 258 ((17, pn j) :: (16, .list 1 (q.map pl)) :: (13, pn k) :: runL key l a b c d nS' nT' s'.length t'.length i), runO nS' nT' s' t' H⟩) q.length
    ⟨fr 258 ((17, pint .i64 0) :: (16, .list 1 (q.map pl)) :: (13, pn k) :: runL key l a b c d nS nT sent.length to.length i), runO nS nT sent to H⟩ (by
    refine At_fr (by simp only [wkb, Nat.reduceEqDiff, Nat.reduceLT, ↓reduceIte]) ?_
    exact Hs.refl _) ⟨0, nS, nT, sent, to, by omega, by omega, by simp, by simp, rfl⟩ ?_
  rintro z τ ⟨j, nS', nT', s', t', hj, rfl, hs, ht, rfl⟩ lp hlp
  refine W_nd fun nd => ?_
  obtain ⟨hne, hn1, hn2⟩ := run_ne nd
  clear nd
  have hsl2 : s'.length = sent.length + j := by rw [hs, List.length_append, List.length_take]; omega
  have htl2 : t'.length = to.length + j := by rw [ht, List.length_append, List.length_replicate]
  by_cases hjq : j < q.length
  · have hs2 : s' ++ [q[j]] = sent ++ q.take (j + 1) := by
      rw [hs, List.take_add_one, List.getElem?_eq_getElem hjq]
      simp
    have ht2 : t' ++ [1 - k] = to ++ List.replicate (j + 1) (1 - k) := by
      rw [ht, List.replicate_succ', List.append_assoc]
    have hd1 := del_not hn1
    have hd2 := del_not hn2
    have hk1 : (1 : Int) - (k : Int) = ((1 - k : Nat) : Int) := by omega
    clear hs ht
    repeat' (first
    | (with_reducible apply W_seq_k; intro nx hnx)
    | (with_reducible first | apply W_block | apply W_scope)
    | (with_reducible refine W_prune 3064992543233415047619612257985451157307474195171508167 ?_; simp only [prb, Nat.reducePow, Nat.reduceDiv, Nat.reduceMod, Nat.reduceBEq]; first | (with_reducible apply W_region_l) | with_reducible refine W_region_draw (id := 29) 3 (.op 0 true (.op 1 true (.op 2 true (.op 3 true (.op 4 true (.op 6 true (.op 7 true (.op 10 true (.alt 5 false (.alt 8 true (.alt 9 true (.op 11 false (.op 12 true (.done))) .stop) .stop) (.alt 8 true (.alt 5 false (.alt 9 true (.op 11 false (.op 12 true (.done))) .stop) (.alt 9 true (.op 5 false (.op 11 false (.op 12 true (.done)))) .stop)) .stop)))))))))) (by kernel_rfl) ?_ | with_reducible refine W_region_draw (id := 15) 3 (.op 0 true (.op 1 true (.op 2 true (.op 3 true (.op 4 true (.op 5 true (.op 6 true (.op 7 true (.op 8 true (.op 9 false (.op 10 true (.done)))))))))))) (by kernel_rfl) ?_ | with_reducible refine W_region_draw (id := 45) 1 (.op 0 true (.op 1 true (.op 2 true (.op 3 true (.op 5 true (.op 6 true (.op 7 true (.op 8 true (.op 9 true (.op 10 true (.op 11 true (.op 12 true (.op 13 true (.op 14 true (.op 15 true (.op 16 true (.op 17 true (.op 18 true (.op 19 true (.op 20 true (.op 4 true (.op 21 true (.op 22 true (.op 23 true (.op 24 true (.op 25 true (.op 26 true (.op 28 true (.op 29 true (.op 30 true (.op 31 true (.op 32 true (.op 33 true (.op 34 true (.op 27 true (.op 35 true (.op 36 true (.done)))))))))))))))))))))))))))))))))))))) (by kernel_rfl) ?_)
    | (with_reducible refine WL_born (by simp) rfl (by simp) ?_; simp only [elemsOf, nl, List.map_cons, List.map_nil, Nat.reduceEqDiff, ↓reduceIte, List.take_succ_cons, List.take_zero, List.range_succ, List.range_zero, List.nil_append, List.cons_append, List.map_append, List.drop_succ_cons, List.drop_zero, Nat.reduceMul, Nat.zero_mul, Nat.one_mul, Nat.reduceAdd])
    | ((first | (with_reducible apply WL_op; intro nx hnx) | with_reducible refine Ev_out ?_ | (with_reducible apply popsD_op; intro nx hnx) | (with_reducible refine popsD_alt ?_ ?_; intro nx hnx) | (with_reducible refine pfresh_k hnm fun nm hnm => ?_; (try simp only [fmb] at hnm)) | (with_reducible refine pborn_im ?_; simp only [elemsOf, nl, List.map_cons, List.map_nil, Nat.reduceEqDiff, ↓reduceIte, List.take_succ_cons, List.take_zero, List.range_succ, List.range_zero, List.nil_append, List.cons_append, List.map_append, List.drop_succ_cons, List.drop_zero, Nat.reduceMul, Nat.zero_mul, Nat.one_mul, Nat.reduceAdd]) | (with_reducible refine pmaybe_k ?_; intro bn hbn)); try (simp (maxSteps := 2000000) (disch := omega) only [evb, evd, pbuiltin, constPV, pnck, seqK, blockK, scopeK, pbin, pun, ppick, plen, piaddr, pindex, pfield, pslice, pbound, pconv, pelems, pextract, pmm, PV.mem?, PV.one, PV.cells, pageq, peqs, peq1, pmakes, pstore, pbytes, pmark, psrc, pkey, pnile, pcap, pgrow, List.set, Value.cells, ↓popG_eq, ↓pop.eq_1, ↓List.getElem?_map, ↓List.getElem?_cons_zero, ↓List.getElem?_cons_succ, Value.oneCell', Nat.reduceAdd, Nat.reduceMul, Nat.reduceSub, Nat.reduceLeDiff, Nat.reduceEqDiff, ↓reduceIte, ne_eq, reduceCtorEq, forall_const, exists_and_left, exists_eq_left', eq_self, Nat.reduceLT, Int.reduceLT, Int.reduceLE, Int.reduceToNat, Int.reduceAdd, Int.reduceSub, Int.reduceNeg, hnm, Try.tf0, Try.tf1, Try.tf2, Try.tf3, Try.tf4, Try.tf5, Try.tf7, Try.tf22, Try.tf23, Try.tf24, Try.tf26, Try.tf28, Try.tf31, Try.tf32, Try.tf33, Try.tf34, Try.tf35, Try.tf43, Try.tf44, Try.tf65, Try.teq79, Try.call9, Try.call10, Try.call11, Try.call12, Try.call13, Try.call14, Try.call15, Try.call16, Try.call17, Try.call18, Try.call19, Try.call20, Try.call21, Try.call22, Try.call23, hne, hd1, hd2, hk1]); repeat (refine And.intro (by omega) ?_))
    | ((with_reducible first | apply WL_nil | apply W_label | apply W_skip | apply W_exit | apply W_ret | apply popsD_done); try simp only [seqK, blockK, scopeK, ↓reduceIte, Nat.reduceEqDiff])
    | with_reducible exact popsD_stop
    | (with_reducible apply pguard_intro <;> (intro hc; (try simp only [hcb, reduceCtorEq, forall_const, ne_eq] at hc); first | (exfalso; omega) | (exfalso; exact hc trivial) | refine Ev_in ?_))
    | (with_reducible apply W_cond_k; intro _ _ ea eb; (simp only [condK, cob, opnd, constPV, Nat.reduceEqDiff, Nat.reduceLT, ↓reduceIte, hcb, reduceCtorEq, forall_const, ne_eq]); subst ea eb; first | (refine ⟨fun hc => ?_, fun hc => ?_⟩ <;> first | (exfalso; omega) | (exfalso; exact hc trivial) | skip) | skip)
    | (with_reducible apply hnx; clear hnx nx)
    | (with_reducible refine And.intro (by omega) ?_)
    | (with_reducible refine And.intro ?_ ?_)
    | (clear hnx nx; with_reducible apply hnx; clear hnx nx)
    | (clear hnx nx; clear hnx nx; with_reducible apply hnx; clear hnx nx)
    | (clear hnx nx; clear hnx nx; clear hnx nx; with_reducible apply hnx; clear hnx nx))
    all_goals first
      | exact absurd trivial hc
      | (exfalso
         omega)
      | skip
    rename_i nmA hnmA
    refine hlp _ (q.length - (j + 1)) _ (by omega) ?_ ⟨j + 1, nmA, nm, s' ++ [q[j]], t' ++ [1 - k], by omega, rfl, hs2, ht2, rfl⟩
    simp only [List.length_append, List.length_cons, List.length_nil]
    refine At_fr (by simp only [wkb, Nat.reduceEqDiff, Nat.reduceLT, ↓reduceIte, pn]) ?_
    refine Hs.perm ?_
    simp [flat, PV.cells, runO]
  · have hj2 : j = q.length := by omega
    subst hj2
    repeat' (first
    | (with_reducible apply W_seq_k; intro nx hnx)
    | (with_reducible first | apply W_block | apply W_scope)
    | (with_reducible refine W_prune 3064992543233415047619612257985451157307474195171508167 ?_; simp only [prb, Nat.reducePow, Nat.reduceDiv, Nat.reduceMod, Nat.reduceBEq]; first | (with_reducible apply W_region_l) | with_reducible refine W_region_draw (id := 29) 3 (.op 0 true (.op 1 true (.op 2 true (.op 3 true (.op 4 true (.op 6 true (.op 7 true (.op 10 true (.alt 5 false (.alt 8 true (.alt 9 true (.op 11 false (.op 12 true (.done))) .stop) .stop) (.alt 8 true (.alt 5 false (.alt 9 true (.op 11 false (.op 12 true (.done))) .stop) (.alt 9 true (.op 5 false (.op 11 false (.op 12 true (.done)))) .stop)) .stop)))))))))) (by kernel_rfl) ?_ | with_reducible refine W_region_draw (id := 15) 3 (.op 0 true (.op 1 true (.op 2 true (.op 3 true (.op 4 true (.op 5 true (.op 6 true (.op 7 true (.op 8 true (.op 9 false (.op 10 true (.done)))))))))))) (by kernel_rfl) ?_ | with_reducible refine W_region_draw (id := 45) 1 (.op 0 true (.op 1 true (.op 2 true (.op 3 true (.op 5 true (.op 6 true (.op 7 true (.op 8 true (.op 9 true (.op 10 true (.op 11 true (.op 12 true (.op 13 true (.op 14 true (.op 15 true (.op 16 true (.op 17 true (.op 18 true (.op 19 true (.op 20 true (.op 4 true (.op 21 true (.op 22 true (.op 23 true (.op 24 true (.op 25 true (.op 26 true (.op 28 true (.op 29 true (.op 30 true (.op 31 true (.op 32 true (.op 33 true (.op 34 true (.op 27 true (.op 35 true (.op 36 true (.done)))))))))))))))))))))))))))))))))))))) (by kernel_rfl) ?_)
    | (with_reducible refine WL_born (by simp) rfl (by simp) ?_; simp only [elemsOf, nl, List.map_cons, List.map_nil, Nat.reduceEqDiff, ↓reduceIte, List.take_succ_cons, List.take_zero, List.range_succ, List.range_zero, List.nil_append, List.cons_append, List.map_append, List.drop_succ_cons, List.drop_zero, Nat.reduceMul, Nat.zero_mul, Nat.one_mul, Nat.reduceAdd])
    | ((first | (with_reducible apply WL_op; intro nx hnx) | with_reducible refine Ev_out ?_ | (with_reducible apply popsD_op; intro nx hnx) | (with_reducible refine popsD_alt ?_ ?_; intro nx hnx) | (with_reducible refine pfresh_k hnm fun nm hnm => ?_; (try simp only [fmb] at hnm)) | (with_reducible refine pborn_im ?_; simp only [elemsOf, nl, List.map_cons, List.map_nil, Nat.reduceEqDiff, ↓reduceIte, List.take_succ_cons, List.take_zero, List.range_succ, List.range_zero, List.nil_append, List.cons_append, List.map_append, List.drop_succ_cons, List.drop_zero, Nat.reduceMul, Nat.zero_mul, Nat.one_mul, Nat.reduceAdd]) | (with_reducible refine pmaybe_k ?_; intro bn hbn)); try (simp (maxSteps := 2000000) (disch := omega) only [evb, evd, pbuiltin, constPV, pnck, seqK, blockK, scopeK, pbin, pun, ppick, plen, piaddr, pindex, pfield, pslice, pbound, pconv, pelems, pextract, pmm, PV.mem?, PV.one, PV.cells, pageq, peqs, peq1, pmakes, pstore, pbytes, pmark, psrc, pkey, pnile, pcap, pgrow, List.set, Value.cells, ↓popG_eq, ↓pop.eq_1, ↓List.getElem?_map, ↓List.getElem?_cons_zero, ↓List.getElem?_cons_succ, Value.oneCell', Nat.reduceAdd, Nat.reduceMul, Nat.reduceSub, Nat.reduceLeDiff, Nat.reduceEqDiff, ↓reduceIte, ne_eq, reduceCtorEq, forall_const, exists_and_left, exists_eq_left', eq_self, Nat.reduceLT, Int.reduceLT, Int.reduceLE, Int.reduceToNat, Int.reduceAdd, Int.reduceSub, Int.reduceNeg, hnm, Try.tf0, Try.tf1, Try.tf2, Try.tf3, Try.tf4, Try.tf5, Try.tf7, Try.tf22, Try.tf23, Try.tf24, Try.tf26, Try.tf28, Try.tf31, Try.tf32, Try.tf33, Try.tf34, Try.tf35, Try.tf43, Try.tf44, Try.tf65, Try.teq79, Try.call9, Try.call10, Try.call11, Try.call12, Try.call13, Try.call14, Try.call15, Try.call16, Try.call17, Try.call18, Try.call19, Try.call20, Try.call21, Try.call22, Try.call23, hne]); repeat (refine And.intro (by omega) ?_))
    | ((with_reducible first | apply WL_nil | apply W_label | apply W_skip | apply W_exit | apply W_ret | apply popsD_done); try simp only [seqK, blockK, scopeK, ↓reduceIte, Nat.reduceEqDiff])
    | with_reducible exact popsD_stop
    | (with_reducible apply pguard_intro <;> (intro hc; (try simp only [hcb, reduceCtorEq, forall_const, ne_eq] at hc); first | (exfalso; omega) | (exfalso; exact hc trivial) | refine Ev_in ?_))
    | (with_reducible apply W_cond_k; intro _ _ ea eb; (simp only [condK, cob, opnd, constPV, Nat.reduceEqDiff, Nat.reduceLT, ↓reduceIte, hcb, reduceCtorEq, forall_const, ne_eq]); subst ea eb; first | (refine ⟨fun hc => ?_, fun hc => ?_⟩ <;> first | (exfalso; omega) | (exfalso; exact hc trivial) | skip) | skip)
    | (with_reducible apply hnx; clear hnx nx)
    | (with_reducible refine And.intro (by omega) ?_)
    | (with_reducible refine And.intro ?_ ?_)
    | (clear hnx nx; with_reducible apply hnx; clear hnx nx)
    | (clear hnx nx; clear hnx nx; with_reducible apply hnx; clear hnx nx)
    | (clear hnx nx; clear hnx nx; clear hnx nx; with_reducible apply hnx; clear hnx nx))
    all_goals first
      | exact absurd trivial hc
      | (exfalso
         omega)
      | skip
    rw [List.take_length] at hs
    subst hs ht
    refine hK _ nS' nT' ?_
    refine At_fr (by simp only [wkb, Nat.reduceEqDiff, Nat.reduceLT, ↓reduceIte]) ?_
    exact Hs.refl _
set_option maxRecDepth 100000 in
set_option maxHeartbeats 8000000 in
theorem runs_out (G : Globs) (key : UInt64) (l : List Int) (a b c d nS nT : Int) (sent : List (List UInt8)) (to : List Nat) (i : Nat) (hi : i < 60) (n : Int) (k : Nat) (hk : k < 2) (ra rb : RE) (H : Heap) (hI : RunI i key ra rb sent to) (hH : RunH a b c d ra rb H)
    (K : Exit → PState → Prop) (hK : ∀ σ' nS' nT' ra' rb' sent' to' H', RunI (i + 1) key ra' rb' sent' to' → RunH a b c d ra' rb' H' → At σ' (runT key l a b c d nS' nT' sent' to' i H') → K .normal σ') :
    W Try.prog G [] (nav (Try.f3.body.getD .skip) [1, 1, 1, 1, 1, 1, 0, 1, 0, 0, 1, 0, 0, 1, 1, 0, 1, 0, 1, 1, 1, 0]) ⟨fr 258 ((13, pn k) :: (12, pint .i64 n) :: runL key l a b c d nS nT sent.length to.length i), runO nS nT sent to H⟩ K := by
  have hnm : True := trivial
  obtain ⟨Ra, Rb, Ha, Hb, rfl, h1, h2, h3, h4⟩ := hH
  obtain ⟨i1, i2, i3, i4, i5, i6⟩ := hI
  have hk2 : k = 0 ∨ k = 1 := by omega
  have loop := fun (q : List (List UInt8)) (nS nT : Int) (H : Heap) (hql : q.length ≤ 16) (K : Exit → PState → Prop) (hK : _) => runs_sent G key l a b c d nS nT sent q to i hi k hk H hql (by omega) (by omega) K hK
  rcases hk2 with rfl | rfl
  · have pk := i1.packets (by omega)
    have c1 := out_c G a (toL ra) (i1.okE (by omega)) (by have := i1.win; simp only [toL]; omega) (fun x hx => i1.msgs x (List.mem_of_mem_drop hx)) Ha h3
    have c2 := rout_c G c ra (by have := i1.sent; omega) i1.acked (by have := i1.got; omega) (by have := i1.win; omega) i1.msgs Ra h1
    have e2 : toL { ra with owing := false } = (outL (toL ra)).2 := rfl
    have e3 := i1.out
    rw [← e2] at c1
    have m1 := sameLists_c G (outL (toL ra)).1 (outL (toL ra)).1 (by omega) (fun x hx => by have := (pk.2 x hx).2; omega)
    rw [decide_eq_true rfl] at m1
    generalize (outL (toL ra)).1 = q at *
    generalize { ra with owing := false } = ra' at *
    have lp := fun (nS nT : Int) (H : Heap) => loop q nS nT H pk.1
    clear loop
    simp only [Try.f3, nav, Option.getD_some] at lp ⊢
    with_reducible apply W_seq_k
    intro nx hnx
    repeat' (first
    | (with_reducible first | apply W_block | apply W_scope)
    | (with_reducible refine W_prune 3064992543233415047619612257985451157307474195171508167 ?_; simp only [prb, Nat.reducePow, Nat.reduceDiv, Nat.reduceMod, Nat.reduceBEq]; first | (with_reducible apply W_region_l) | with_reducible refine W_region_draw (id := 29) 3 (.op 0 true (.op 1 true (.op 2 true (.op 3 true (.op 4 true (.op 6 true (.op 7 true (.op 10 true (.alt 5 false (.alt 8 true (.alt 9 true (.op 11 false (.op 12 true (.done))) .stop) .stop) (.alt 8 true (.alt 5 false (.alt 9 true (.op 11 false (.op 12 true (.done))) .stop) (.alt 9 true (.op 5 false (.op 11 false (.op 12 true (.done)))) .stop)) .stop)))))))))) (by kernel_rfl) ?_ | with_reducible refine W_region_draw (id := 15) 3 (.op 0 true (.op 1 true (.op 2 true (.op 3 true (.op 4 true (.op 5 true (.op 6 true (.op 7 true (.op 8 true (.op 9 false (.op 10 true (.done)))))))))))) (by kernel_rfl) ?_ | with_reducible refine W_region_draw (id := 45) 1 (.op 0 true (.op 1 true (.op 2 true (.op 3 true (.op 5 true (.op 6 true (.op 7 true (.op 8 true (.op 9 true (.op 10 true (.op 11 true (.op 12 true (.op 13 true (.op 14 true (.op 15 true (.op 16 true (.op 17 true (.op 18 true (.op 19 true (.op 20 true (.op 4 true (.op 21 true (.op 22 true (.op 23 true (.op 24 true (.op 25 true (.op 26 true (.op 28 true (.op 29 true (.op 30 true (.op 31 true (.op 32 true (.op 33 true (.op 34 true (.op 27 true (.op 35 true (.op 36 true (.done)))))))))))))))))))))))))))))))))))))) (by kernel_rfl) ?_)
    | ((first | (with_reducible apply WL_op; intro nx hnx) | with_reducible refine Ev_out ?_ | (with_reducible apply popsD_op; intro nx hnx) | (with_reducible refine popsD_alt ?_ ?_; intro nx hnx) | (with_reducible refine pfresh_k hnm fun nm hnm => ?_; (try simp only [fmb] at hnm)) | (with_reducible refine pborn_mu hnm fun nm hnm => ?_; (try simp only [fmb] at hnm)) | (with_reducible refine pmaybe_k ?_; intro bn hbn)); try (simp (maxSteps := 2000000) (disch := omega) only [evb, evd, pbuiltin, constPV, pnck, seqK, blockK, scopeK, pbin, pun, ppick, plen, piaddr, pindex, pfield, pslice, pbound, pconv, pelems, pextract, pmm, PV.mem?, PV.one, PV.cells, pageq, peqs, peq1, pmakes, pstore, pbytes, pmark, psrc, pkey, pnile, pcap, pgrow, List.set, Value.cells, ↓popG_eq, ↓pop.eq_1, ↓List.getElem?_map, ↓List.getElem?_cons_zero, ↓List.getElem?_cons_succ, Value.oneCell', Nat.reduceAdd, Nat.reduceMul, Nat.reduceSub, Nat.reduceLeDiff, Nat.reduceEqDiff, ↓reduceIte, ne_eq, reduceCtorEq, forall_const, exists_and_left, exists_eq_left', eq_self, Nat.reduceLT, Int.reduceLT, Int.reduceLE, Int.reduceToNat, Int.reduceAdd, Int.reduceSub, Int.reduceNeg, hnm, Try.tf0, Try.tf1, Try.tf2, Try.tf3, Try.tf4, Try.tf5, Try.tf7, Try.tf22, Try.tf23, Try.tf24, Try.tf26, Try.tf28, Try.tf31, Try.tf32, Try.tf33, Try.tf34, Try.tf35, Try.tf43, Try.tf44, Try.tf65, Try.teq79, Try.call9, Try.call10, Try.call11, Try.call12, Try.call13, Try.call14, Try.call15, Try.call16, Try.call17, Try.call18, Try.call19, Try.call20, Try.call21, Try.call22, Try.call23]); repeat (refine And.intro (by omega) ?_))
    | ((with_reducible first | apply WL_nil | apply W_label | apply W_skip | apply W_exit | apply W_ret | apply popsD_done); try simp only [seqK, blockK, scopeK, ↓reduceIte, Nat.reduceEqDiff])
    | with_reducible exact popsD_stop
    | (with_reducible apply pguard_intro <;> (intro hc; (try simp only [hcb, reduceCtorEq, forall_const, ne_eq] at hc); first | (exfalso; omega) | (exfalso; exact hc trivial) | refine Ev_in ?_))
    | (with_reducible apply W_cond_k; intro _ _ ea eb; (simp only [condK, cob, opnd, constPV, Nat.reduceEqDiff, Nat.reduceLT, ↓reduceIte, hcb, reduceCtorEq, forall_const, ne_eq]); subst ea eb; first | (refine ⟨fun hc => ?_, fun hc => ?_⟩ <;> first | (exfalso; omega) | (exfalso; exact hc trivial) | skip) | skip)
    | (with_reducible apply hnx; clear hnx nx)
    | (with_reducible refine And.intro (by omega) ?_)
    | (with_reducible refine And.intro ?_ ?_)
    | (((with_reducible refine pcall_p3 c1 ?_); rintro _ Ha' ⟨rfl, hEa⟩; refine Ev_in ?_))
    | (clear hnx nx; with_reducible apply hnx; clear hnx nx)
    | (clear hnx nx; clear hnx nx; with_reducible apply hnx; clear hnx nx)
    | (clear hnx nx; clear hnx nx; clear hnx nx; with_reducible apply hnx; clear hnx nx))
    with_reducible apply W_seq_k
    intro nx hnx
    repeat' (first
    | (with_reducible first | apply W_block | apply W_scope)
    | (with_reducible refine W_prune 3064992543233415047619612257985451157307474195171508167 ?_; simp only [prb, Nat.reducePow, Nat.reduceDiv, Nat.reduceMod, Nat.reduceBEq]; first | (with_reducible apply W_region_l) | with_reducible refine W_region_draw (id := 29) 3 (.op 0 true (.op 1 true (.op 2 true (.op 3 true (.op 4 true (.op 6 true (.op 7 true (.op 10 true (.alt 5 false (.alt 8 true (.alt 9 true (.op 11 false (.op 12 true (.done))) .stop) .stop) (.alt 8 true (.alt 5 false (.alt 9 true (.op 11 false (.op 12 true (.done))) .stop) (.alt 9 true (.op 5 false (.op 11 false (.op 12 true (.done)))) .stop)) .stop)))))))))) (by kernel_rfl) ?_ | with_reducible refine W_region_draw (id := 15) 3 (.op 0 true (.op 1 true (.op 2 true (.op 3 true (.op 4 true (.op 5 true (.op 6 true (.op 7 true (.op 8 true (.op 9 false (.op 10 true (.done)))))))))))) (by kernel_rfl) ?_ | with_reducible refine W_region_draw (id := 45) 1 (.op 0 true (.op 1 true (.op 2 true (.op 3 true (.op 5 true (.op 6 true (.op 7 true (.op 8 true (.op 9 true (.op 10 true (.op 11 true (.op 12 true (.op 13 true (.op 14 true (.op 15 true (.op 16 true (.op 17 true (.op 18 true (.op 19 true (.op 20 true (.op 4 true (.op 21 true (.op 22 true (.op 23 true (.op 24 true (.op 25 true (.op 26 true (.op 28 true (.op 29 true (.op 30 true (.op 31 true (.op 32 true (.op 33 true (.op 34 true (.op 27 true (.op 35 true (.op 36 true (.done)))))))))))))))))))))))))))))))))))))) (by kernel_rfl) ?_)
    | ((first | (with_reducible apply WL_op; intro nx hnx) | with_reducible refine Ev_out ?_ | (with_reducible apply popsD_op; intro nx hnx) | (with_reducible refine popsD_alt ?_ ?_; intro nx hnx) | (with_reducible refine pfresh_k hnm fun nm hnm => ?_; (try simp only [fmb] at hnm)) | (with_reducible refine pborn_mu hnm fun nm hnm => ?_; (try simp only [fmb] at hnm)) | (with_reducible refine pmaybe_k ?_; intro bn hbn)); try (simp (maxSteps := 2000000) (disch := omega) only [evb, evd, pbuiltin, constPV, pnck, seqK, blockK, scopeK, pbin, pun, ppick, plen, piaddr, pindex, pfield, pslice, pbound, pconv, pelems, pextract, pmm, PV.mem?, PV.one, PV.cells, pageq, peqs, peq1, pmakes, pstore, pbytes, pmark, psrc, pkey, pnile, pcap, pgrow, List.set, Value.cells, ↓popG_eq, ↓pop.eq_1, ↓List.getElem?_map, ↓List.getElem?_cons_zero, ↓List.getElem?_cons_succ, Value.oneCell', Nat.reduceAdd, Nat.reduceMul, Nat.reduceSub, Nat.reduceLeDiff, Nat.reduceEqDiff, ↓reduceIte, ne_eq, reduceCtorEq, forall_const, exists_and_left, exists_eq_left', eq_self, Nat.reduceLT, Int.reduceLT, Int.reduceLE, Int.reduceToNat, Int.reduceAdd, Int.reduceSub, Int.reduceNeg, hnm, Try.tf0, Try.tf1, Try.tf2, Try.tf3, Try.tf4, Try.tf5, Try.tf7, Try.tf22, Try.tf23, Try.tf24, Try.tf26, Try.tf28, Try.tf31, Try.tf32, Try.tf33, Try.tf34, Try.tf35, Try.tf43, Try.tf44, Try.tf65, Try.teq79, Try.call9, Try.call10, Try.call11, Try.call12, Try.call13, Try.call14, Try.call15, Try.call16, Try.call17, Try.call18, Try.call19, Try.call20, Try.call21, Try.call22, Try.call23]); repeat (refine And.intro (by omega) ?_))
    | ((with_reducible first | apply WL_nil | apply W_label | apply W_skip | apply W_exit | apply W_ret | apply popsD_done); try simp only [seqK, blockK, scopeK, ↓reduceIte, Nat.reduceEqDiff])
    | with_reducible exact popsD_stop
    | (with_reducible apply pguard_intro <;> (intro hc; (try simp only [hcb, reduceCtorEq, forall_const, ne_eq] at hc); first | (exfalso; omega) | (exfalso; exact hc trivial) | refine Ev_in ?_))
    | (with_reducible apply W_cond_k; intro _ _ ea eb; (simp only [condK, cob, opnd, constPV, Nat.reduceEqDiff, Nat.reduceLT, ↓reduceIte, hcb, reduceCtorEq, forall_const, ne_eq]); subst ea eb; first | (refine ⟨fun hc => ?_, fun hc => ?_⟩ <;> first | (exfalso; omega) | (exfalso; exact hc trivial) | skip) | skip)
    | (with_reducible apply hnx; clear hnx nx)
    | (with_reducible refine And.intro (by omega) ?_)
    | (with_reducible refine And.intro ?_ ?_)
    | (((with_reducible refine pcall_p0 c2 ?_); rintro _ Ra' ⟨rfl, hRa⟩; refine Ev_in ?_))
    | (clear hnx nx; with_reducible apply hnx; clear hnx nx)
    | (clear hnx nx; clear hnx nx; with_reducible apply hnx; clear hnx nx)
    | (clear hnx nx; clear hnx nx; clear hnx nx; with_reducible apply hnx; clear hnx nx))
    repeat' (first
    | ((with_reducible refine W_at ?_ (lp nS nT (Ra' ++ (Rb ++ (Hb ++ Ha'))) K ?_)))
    | (with_reducible apply W_seq_k; intro nx hnx)
    | (with_reducible first | apply W_block | apply W_scope)
    | (with_reducible refine W_prune 3064992543233415047619612257985451157307474195171508167 ?_; simp only [prb, Nat.reducePow, Nat.reduceDiv, Nat.reduceMod, Nat.reduceBEq]; first | (with_reducible apply W_region_l) | with_reducible refine W_region_draw (id := 29) 3 (.op 0 true (.op 1 true (.op 2 true (.op 3 true (.op 4 true (.op 6 true (.op 7 true (.op 10 true (.alt 5 false (.alt 8 true (.alt 9 true (.op 11 false (.op 12 true (.done))) .stop) .stop) (.alt 8 true (.alt 5 false (.alt 9 true (.op 11 false (.op 12 true (.done))) .stop) (.alt 9 true (.op 5 false (.op 11 false (.op 12 true (.done)))) .stop)) .stop)))))))))) (by kernel_rfl) ?_ | with_reducible refine W_region_draw (id := 15) 3 (.op 0 true (.op 1 true (.op 2 true (.op 3 true (.op 4 true (.op 5 true (.op 6 true (.op 7 true (.op 8 true (.op 9 false (.op 10 true (.done)))))))))))) (by kernel_rfl) ?_ | with_reducible refine W_region_draw (id := 45) 1 (.op 0 true (.op 1 true (.op 2 true (.op 3 true (.op 5 true (.op 6 true (.op 7 true (.op 8 true (.op 9 true (.op 10 true (.op 11 true (.op 12 true (.op 13 true (.op 14 true (.op 15 true (.op 16 true (.op 17 true (.op 18 true (.op 19 true (.op 20 true (.op 4 true (.op 21 true (.op 22 true (.op 23 true (.op 24 true (.op 25 true (.op 26 true (.op 28 true (.op 29 true (.op 30 true (.op 31 true (.op 32 true (.op 33 true (.op 34 true (.op 27 true (.op 35 true (.op 36 true (.done)))))))))))))))))))))))))))))))))))))) (by kernel_rfl) ?_)
    | ((first | (with_reducible apply WL_op; intro nx hnx) | with_reducible refine Ev_out ?_ | (with_reducible apply popsD_op; intro nx hnx) | (with_reducible refine popsD_alt ?_ ?_; intro nx hnx) | (with_reducible refine pfresh_k hnm fun nm hnm => ?_; (try simp only [fmb] at hnm)) | (with_reducible refine pborn_mu hnm fun nm hnm => ?_; (try simp only [fmb] at hnm)) | (with_reducible refine pmaybe_k ?_; intro bn hbn)); try (simp (maxSteps := 2000000) (disch := omega) only [evb, evd, pbuiltin, constPV, pnck, seqK, blockK, scopeK, pbin, pun, ppick, plen, piaddr, pindex, pfield, pslice, pbound, pconv, pelems, pextract, pmm, PV.mem?, PV.one, PV.cells, pageq, peqs, peq1, pmakes, pstore, pbytes, pmark, psrc, pkey, pnile, pcap, pgrow, List.set, Value.cells, ↓popG_eq, ↓pop.eq_1, ↓List.getElem?_map, ↓List.getElem?_cons_zero, ↓List.getElem?_cons_succ, Value.oneCell', Nat.reduceAdd, Nat.reduceMul, Nat.reduceSub, Nat.reduceLeDiff, Nat.reduceEqDiff, ↓reduceIte, ne_eq, reduceCtorEq, forall_const, exists_and_left, exists_eq_left', eq_self, Nat.reduceLT, Int.reduceLT, Int.reduceLE, Int.reduceToNat, Int.reduceAdd, Int.reduceSub, Int.reduceNeg, hnm, Try.tf0, Try.tf1, Try.tf2, Try.tf3, Try.tf4, Try.tf5, Try.tf7, Try.tf22, Try.tf23, Try.tf24, Try.tf26, Try.tf28, Try.tf31, Try.tf32, Try.tf33, Try.tf34, Try.tf35, Try.tf43, Try.tf44, Try.tf65, Try.teq79, Try.call9, Try.call10, Try.call11, Try.call12, Try.call13, Try.call14, Try.call15, Try.call16, Try.call17, Try.call18, Try.call19, Try.call20, Try.call21, Try.call22, Try.call23]); repeat (refine And.intro (by omega) ?_))
    | ((with_reducible first | apply WL_nil | apply W_label | apply W_skip | apply W_exit | apply W_ret | apply popsD_done); try simp only [seqK, blockK, scopeK, ↓reduceIte, Nat.reduceEqDiff])
    | with_reducible exact popsD_stop
    | (with_reducible apply pguard_intro <;> (intro hc; (try simp only [hcb, reduceCtorEq, forall_const, ne_eq] at hc); first | (exfalso; omega) | (exfalso; exact hc trivial) | refine Ev_in ?_))
    | (with_reducible apply W_cond_k; intro _ _ ea eb; (simp only [condK, cob, opnd, constPV, Nat.reduceEqDiff, Nat.reduceLT, ↓reduceIte, hcb, reduceCtorEq, forall_const, ne_eq]); subst ea eb; first | (refine ⟨fun hc => ?_, fun hc => ?_⟩ <;> first | (exfalso; omega) | (exfalso; exact hc trivial) | skip) | skip)
    | (with_reducible apply hnx; clear hnx nx)
    | (with_reducible refine And.intro (by omega) ?_)
    | (with_reducible refine And.intro ?_ ?_)
    | (with_reducible refine pcall_k (m1) ?_; rintro _ _ ⟨rfl, rfl⟩ -; refine Ev_in ?_)
    | (clear hnx nx; with_reducible apply hnx; clear hnx nx)
    | (clear hnx nx; clear hnx nx; with_reducible apply hnx; clear hnx nx)
    | (clear hnx nx; clear hnx nx; clear hnx nx; with_reducible apply hnx; clear hnx nx))
    all_goals first
      | exact absurd trivial hc
      | skip
    · refine At_fr (by simp only [wkb, Nat.reduceEqDiff, Nat.reduceLT, ↓reduceIte]) ?_
      exact Hs.refl _
    · intro σ' nS' nT' hat
      refine hK σ' nS' nT' ra' rb _ _ _ ⟨e3, i2.up (by omega), ?_, ?_, ?_, ?_⟩ ⟨Ra', Rb, Ha', Hb, rfl, hRa, h2, hEa, h4⟩ hat
      · rw [List.length_append]
        omega
      · rw [List.length_append, List.length_append, List.length_replicate]
        omega
      · intro p hp
        rcases List.mem_append.1 hp with hp | hp
        · exact i5 p hp
        · exact pk.2 p hp
      · intro t ht
        rcases List.mem_append.1 ht with ht | ht
        · exact i6 t ht
        · rw [(List.mem_replicate.1 ht).2]
          omega
  · have pk := i2.packets (by omega)
    have c1 := out_c G b (toL rb) (i2.okE (by omega)) (by have := i2.win; simp only [toL]; omega) (fun x hx => i2.msgs x (List.mem_of_mem_drop hx)) Hb h4
    have c2 := rout_c G d rb (by have := i2.sent; omega) i2.acked (by have := i2.got; omega) (by have := i2.win; omega) i2.msgs Rb h2
    have e2 : toL { rb with owing := false } = (outL (toL rb)).2 := rfl
    have e3 := i2.out
    rw [← e2] at c1
    have m1 := sameLists_c G (outL (toL rb)).1 (outL (toL rb)).1 (by omega) (fun x hx => by have := (pk.2 x hx).2; omega)
    rw [decide_eq_true rfl] at m1
    generalize (outL (toL rb)).1 = q at *
    generalize { rb with owing := false } = rb' at *
    have lp := fun (nS nT : Int) (H : Heap) => loop q nS nT H pk.1
    clear loop
    simp only [Try.f3, nav, Option.getD_some] at lp ⊢
    with_reducible apply W_seq_k
    intro nx hnx
    repeat' (first
    | (with_reducible first | apply W_block | apply W_scope)
    | (with_reducible refine W_prune 3064992543233415047619612257985451157307474195171508167 ?_; simp only [prb, Nat.reducePow, Nat.reduceDiv, Nat.reduceMod, Nat.reduceBEq]; first | (with_reducible apply W_region_l) | with_reducible refine W_region_draw (id := 29) 3 (.op 0 true (.op 1 true (.op 2 true (.op 3 true (.op 4 true (.op 6 true (.op 7 true (.op 10 true (.alt 5 false (.alt 8 true (.alt 9 true (.op 11 false (.op 12 true (.done))) .stop) .stop) (.alt 8 true (.alt 5 false (.alt 9 true (.op 11 false (.op 12 true (.done))) .stop) (.alt 9 true (.op 5 false (.op 11 false (.op 12 true (.done)))) .stop)) .stop)))))))))) (by kernel_rfl) ?_ | with_reducible refine W_region_draw (id := 15) 3 (.op 0 true (.op 1 true (.op 2 true (.op 3 true (.op 4 true (.op 5 true (.op 6 true (.op 7 true (.op 8 true (.op 9 false (.op 10 true (.done)))))))))))) (by kernel_rfl) ?_ | with_reducible refine W_region_draw (id := 45) 1 (.op 0 true (.op 1 true (.op 2 true (.op 3 true (.op 5 true (.op 6 true (.op 7 true (.op 8 true (.op 9 true (.op 10 true (.op 11 true (.op 12 true (.op 13 true (.op 14 true (.op 15 true (.op 16 true (.op 17 true (.op 18 true (.op 19 true (.op 20 true (.op 4 true (.op 21 true (.op 22 true (.op 23 true (.op 24 true (.op 25 true (.op 26 true (.op 28 true (.op 29 true (.op 30 true (.op 31 true (.op 32 true (.op 33 true (.op 34 true (.op 27 true (.op 35 true (.op 36 true (.done)))))))))))))))))))))))))))))))))))))) (by kernel_rfl) ?_)
    | ((first | (with_reducible apply WL_op; intro nx hnx) | with_reducible refine Ev_out ?_ | (with_reducible apply popsD_op; intro nx hnx) | (with_reducible refine popsD_alt ?_ ?_; intro nx hnx) | (with_reducible refine pfresh_k hnm fun nm hnm => ?_; (try simp only [fmb] at hnm)) | (with_reducible refine pborn_mu hnm fun nm hnm => ?_; (try simp only [fmb] at hnm)) | (with_reducible refine pmaybe_k ?_; intro bn hbn)); try (simp (maxSteps := 2000000) (disch := omega) only [evb, evd, pbuiltin, constPV, pnck, seqK, blockK, scopeK, pbin, pun, ppick, plen, piaddr, pindex, pfield, pslice, pbound, pconv, pelems, pextract, pmm, PV.mem?, PV.one, PV.cells, pageq, peqs, peq1, pmakes, pstore, pbytes, pmark, psrc, pkey, pnile, pcap, pgrow, List.set, Value.cells, ↓popG_eq, ↓pop.eq_1, ↓List.getElem?_map, ↓List.getElem?_cons_zero, ↓List.getElem?_cons_succ, Value.oneCell', Nat.reduceAdd, Nat.reduceMul, Nat.reduceSub, Nat.reduceLeDiff, Nat.reduceEqDiff, ↓reduceIte, ne_eq, reduceCtorEq, forall_const, exists_and_left, exists_eq_left', eq_self, Nat.reduceLT, Int.reduceLT, Int.reduceLE, Int.reduceToNat, Int.reduceAdd, Int.reduceSub, Int.reduceNeg, hnm, Try.tf0, Try.tf1, Try.tf2, Try.tf3, Try.tf4, Try.tf5, Try.tf7, Try.tf22, Try.tf23, Try.tf24, Try.tf26, Try.tf28, Try.tf31, Try.tf32, Try.tf33, Try.tf34, Try.tf35, Try.tf43, Try.tf44, Try.tf65, Try.teq79, Try.call9, Try.call10, Try.call11, Try.call12, Try.call13, Try.call14, Try.call15, Try.call16, Try.call17, Try.call18, Try.call19, Try.call20, Try.call21, Try.call22, Try.call23]); repeat (refine And.intro (by omega) ?_))
    | ((with_reducible first | apply WL_nil | apply W_label | apply W_skip | apply W_exit | apply W_ret | apply popsD_done); try simp only [seqK, blockK, scopeK, ↓reduceIte, Nat.reduceEqDiff])
    | with_reducible exact popsD_stop
    | (with_reducible apply pguard_intro <;> (intro hc; (try simp only [hcb, reduceCtorEq, forall_const, ne_eq] at hc); first | (exfalso; omega) | (exfalso; exact hc trivial) | refine Ev_in ?_))
    | (with_reducible apply W_cond_k; intro _ _ ea eb; (simp only [condK, cob, opnd, constPV, Nat.reduceEqDiff, Nat.reduceLT, ↓reduceIte, hcb, reduceCtorEq, forall_const, ne_eq]); subst ea eb; first | (refine ⟨fun hc => ?_, fun hc => ?_⟩ <;> first | (exfalso; omega) | (exfalso; exact hc trivial) | skip) | skip)
    | (with_reducible apply hnx; clear hnx nx)
    | (with_reducible refine And.intro (by omega) ?_)
    | (with_reducible refine And.intro ?_ ?_)
    | (((with_reducible refine pcall_p2 c1 ?_); rintro _ Hb' ⟨rfl, hEb⟩; refine Ev_in ?_))
    | (clear hnx nx; with_reducible apply hnx; clear hnx nx)
    | (clear hnx nx; clear hnx nx; with_reducible apply hnx; clear hnx nx)
    | (clear hnx nx; clear hnx nx; clear hnx nx; with_reducible apply hnx; clear hnx nx))
    with_reducible apply W_seq_k
    intro nx hnx
    repeat' (first
    | (with_reducible first | apply W_block | apply W_scope)
    | (with_reducible refine W_prune 3064992543233415047619612257985451157307474195171508167 ?_; simp only [prb, Nat.reducePow, Nat.reduceDiv, Nat.reduceMod, Nat.reduceBEq]; first | (with_reducible apply W_region_l) | with_reducible refine W_region_draw (id := 29) 3 (.op 0 true (.op 1 true (.op 2 true (.op 3 true (.op 4 true (.op 6 true (.op 7 true (.op 10 true (.alt 5 false (.alt 8 true (.alt 9 true (.op 11 false (.op 12 true (.done))) .stop) .stop) (.alt 8 true (.alt 5 false (.alt 9 true (.op 11 false (.op 12 true (.done))) .stop) (.alt 9 true (.op 5 false (.op 11 false (.op 12 true (.done)))) .stop)) .stop)))))))))) (by kernel_rfl) ?_ | with_reducible refine W_region_draw (id := 15) 3 (.op 0 true (.op 1 true (.op 2 true (.op 3 true (.op 4 true (.op 5 true (.op 6 true (.op 7 true (.op 8 true (.op 9 false (.op 10 true (.done)))))))))))) (by kernel_rfl) ?_ | with_reducible refine W_region_draw (id := 45) 1 (.op 0 true (.op 1 true (.op 2 true (.op 3 true (.op 5 true (.op 6 true (.op 7 true (.op 8 true (.op 9 true (.op 10 true (.op 11 true (.op 12 true (.op 13 true (.op 14 true (.op 15 true (.op 16 true (.op 17 true (.op 18 true (.op 19 true (.op 20 true (.op 4 true (.op 21 true (.op 22 true (.op 23 true (.op 24 true (.op 25 true (.op 26 true (.op 28 true (.op 29 true (.op 30 true (.op 31 true (.op 32 true (.op 33 true (.op 34 true (.op 27 true (.op 35 true (.op 36 true (.done)))))))))))))))))))))))))))))))))))))) (by kernel_rfl) ?_)
    | ((first | (with_reducible apply WL_op; intro nx hnx) | with_reducible refine Ev_out ?_ | (with_reducible apply popsD_op; intro nx hnx) | (with_reducible refine popsD_alt ?_ ?_; intro nx hnx) | (with_reducible refine pfresh_k hnm fun nm hnm => ?_; (try simp only [fmb] at hnm)) | (with_reducible refine pborn_mu hnm fun nm hnm => ?_; (try simp only [fmb] at hnm)) | (with_reducible refine pmaybe_k ?_; intro bn hbn)); try (simp (maxSteps := 2000000) (disch := omega) only [evb, evd, pbuiltin, constPV, pnck, seqK, blockK, scopeK, pbin, pun, ppick, plen, piaddr, pindex, pfield, pslice, pbound, pconv, pelems, pextract, pmm, PV.mem?, PV.one, PV.cells, pageq, peqs, peq1, pmakes, pstore, pbytes, pmark, psrc, pkey, pnile, pcap, pgrow, List.set, Value.cells, ↓popG_eq, ↓pop.eq_1, ↓List.getElem?_map, ↓List.getElem?_cons_zero, ↓List.getElem?_cons_succ, Value.oneCell', Nat.reduceAdd, Nat.reduceMul, Nat.reduceSub, Nat.reduceLeDiff, Nat.reduceEqDiff, ↓reduceIte, ne_eq, reduceCtorEq, forall_const, exists_and_left, exists_eq_left', eq_self, Nat.reduceLT, Int.reduceLT, Int.reduceLE, Int.reduceToNat, Int.reduceAdd, Int.reduceSub, Int.reduceNeg, hnm, Try.tf0, Try.tf1, Try.tf2, Try.tf3, Try.tf4, Try.tf5, Try.tf7, Try.tf22, Try.tf23, Try.tf24, Try.tf26, Try.tf28, Try.tf31, Try.tf32, Try.tf33, Try.tf34, Try.tf35, Try.tf43, Try.tf44, Try.tf65, Try.teq79, Try.call9, Try.call10, Try.call11, Try.call12, Try.call13, Try.call14, Try.call15, Try.call16, Try.call17, Try.call18, Try.call19, Try.call20, Try.call21, Try.call22, Try.call23]); repeat (refine And.intro (by omega) ?_))
    | ((with_reducible first | apply WL_nil | apply W_label | apply W_skip | apply W_exit | apply W_ret | apply popsD_done); try simp only [seqK, blockK, scopeK, ↓reduceIte, Nat.reduceEqDiff])
    | with_reducible exact popsD_stop
    | (with_reducible apply pguard_intro <;> (intro hc; (try simp only [hcb, reduceCtorEq, forall_const, ne_eq] at hc); first | (exfalso; omega) | (exfalso; exact hc trivial) | refine Ev_in ?_))
    | (with_reducible apply W_cond_k; intro _ _ ea eb; (simp only [condK, cob, opnd, constPV, Nat.reduceEqDiff, Nat.reduceLT, ↓reduceIte, hcb, reduceCtorEq, forall_const, ne_eq]); subst ea eb; first | (refine ⟨fun hc => ?_, fun hc => ?_⟩ <;> first | (exfalso; omega) | (exfalso; exact hc trivial) | skip) | skip)
    | (with_reducible apply hnx; clear hnx nx)
    | (with_reducible refine And.intro (by omega) ?_)
    | (with_reducible refine And.intro ?_ ?_)
    | (((with_reducible refine pcall_p1 c2 ?_); rintro _ Rb' ⟨rfl, hRb⟩; refine Ev_in ?_))
    | (clear hnx nx; with_reducible apply hnx; clear hnx nx)
    | (clear hnx nx; clear hnx nx; with_reducible apply hnx; clear hnx nx)
    | (clear hnx nx; clear hnx nx; clear hnx nx; with_reducible apply hnx; clear hnx nx))
    repeat' (first
    | ((with_reducible refine W_at ?_ (lp nS nT (Ra ++ (Rb' ++ (Hb' ++ Ha))) K ?_)))
    | (with_reducible apply W_seq_k; intro nx hnx)
    | (with_reducible first | apply W_block | apply W_scope)
    | (with_reducible refine W_prune 3064992543233415047619612257985451157307474195171508167 ?_; simp only [prb, Nat.reducePow, Nat.reduceDiv, Nat.reduceMod, Nat.reduceBEq]; first | (with_reducible apply W_region_l) | with_reducible refine W_region_draw (id := 29) 3 (.op 0 true (.op 1 true (.op 2 true (.op 3 true (.op 4 true (.op 6 true (.op 7 true (.op 10 true (.alt 5 false (.alt 8 true (.alt 9 true (.op 11 false (.op 12 true (.done))) .stop) .stop) (.alt 8 true (.alt 5 false (.alt 9 true (.op 11 false (.op 12 true (.done))) .stop) (.alt 9 true (.op 5 false (.op 11 false (.op 12 true (.done)))) .stop)) .stop)))))))))) (by kernel_rfl) ?_ | with_reducible refine W_region_draw (id := 15) 3 (.op 0 true (.op 1 true (.op 2 true (.op 3 true (.op 4 true (.op 5 true (.op 6 true (.op 7 true (.op 8 true (.op 9 false (.op 10 true (.done)))))))))))) (by kernel_rfl) ?_ | with_reducible refine W_region_draw (id := 45) 1 (.op 0 true (.op 1 true (.op 2 true (.op 3 true (.op 5 true (.op 6 true (.op 7 true (.op 8 true (.op 9 true (.op 10 true (.op 11 true (.op 12 true (.op 13 true (.op 14 true (.op 15 true (.op 16 true (.op 17 true (.op 18 true (.op 19 true (.op 20 true (.op 4 true (.op 21 true (.op 22 true (.op 23 true (.op 24 true (.op 25 true (.op 26 true (.op 28 true (.op 29 true (.op 30 true (.op 31 true (.op 32 true (.op 33 true (.op 34 true (.op 27 true (.op 35 true (.op 36 true (.done)))))))))))))))))))))))))))))))))))))) (by kernel_rfl) ?_)
    | ((first | (with_reducible apply WL_op; intro nx hnx) | with_reducible refine Ev_out ?_ | (with_reducible apply popsD_op; intro nx hnx) | (with_reducible refine popsD_alt ?_ ?_; intro nx hnx) | (with_reducible refine pfresh_k hnm fun nm hnm => ?_; (try simp only [fmb] at hnm)) | (with_reducible refine pborn_mu hnm fun nm hnm => ?_; (try simp only [fmb] at hnm)) | (with_reducible refine pmaybe_k ?_; intro bn hbn)); try (simp (maxSteps := 2000000) (disch := omega) only [evb, evd, pbuiltin, constPV, pnck, seqK, blockK, scopeK, pbin, pun, ppick, plen, piaddr, pindex, pfield, pslice, pbound, pconv, pelems, pextract, pmm, PV.mem?, PV.one, PV.cells, pageq, peqs, peq1, pmakes, pstore, pbytes, pmark, psrc, pkey, pnile, pcap, pgrow, List.set, Value.cells, ↓popG_eq, ↓pop.eq_1, ↓List.getElem?_map, ↓List.getElem?_cons_zero, ↓List.getElem?_cons_succ, Value.oneCell', Nat.reduceAdd, Nat.reduceMul, Nat.reduceSub, Nat.reduceLeDiff, Nat.reduceEqDiff, ↓reduceIte, ne_eq, reduceCtorEq, forall_const, exists_and_left, exists_eq_left', eq_self, Nat.reduceLT, Int.reduceLT, Int.reduceLE, Int.reduceToNat, Int.reduceAdd, Int.reduceSub, Int.reduceNeg, hnm, Try.tf0, Try.tf1, Try.tf2, Try.tf3, Try.tf4, Try.tf5, Try.tf7, Try.tf22, Try.tf23, Try.tf24, Try.tf26, Try.tf28, Try.tf31, Try.tf32, Try.tf33, Try.tf34, Try.tf35, Try.tf43, Try.tf44, Try.tf65, Try.teq79, Try.call9, Try.call10, Try.call11, Try.call12, Try.call13, Try.call14, Try.call15, Try.call16, Try.call17, Try.call18, Try.call19, Try.call20, Try.call21, Try.call22, Try.call23]); repeat (refine And.intro (by omega) ?_))
    | ((with_reducible first | apply WL_nil | apply W_label | apply W_skip | apply W_exit | apply W_ret | apply popsD_done); try simp only [seqK, blockK, scopeK, ↓reduceIte, Nat.reduceEqDiff])
    | with_reducible exact popsD_stop
    | (with_reducible apply pguard_intro <;> (intro hc; (try simp only [hcb, reduceCtorEq, forall_const, ne_eq] at hc); first | (exfalso; omega) | (exfalso; exact hc trivial) | refine Ev_in ?_))
    | (with_reducible apply W_cond_k; intro _ _ ea eb; (simp only [condK, cob, opnd, constPV, Nat.reduceEqDiff, Nat.reduceLT, ↓reduceIte, hcb, reduceCtorEq, forall_const, ne_eq]); subst ea eb; first | (refine ⟨fun hc => ?_, fun hc => ?_⟩ <;> first | (exfalso; omega) | (exfalso; exact hc trivial) | skip) | skip)
    | (with_reducible apply hnx; clear hnx nx)
    | (with_reducible refine And.intro (by omega) ?_)
    | (with_reducible refine And.intro ?_ ?_)
    | (with_reducible refine pcall_k (m1) ?_; rintro _ _ ⟨rfl, rfl⟩ -; refine Ev_in ?_)
    | (clear hnx nx; with_reducible apply hnx; clear hnx nx)
    | (clear hnx nx; clear hnx nx; with_reducible apply hnx; clear hnx nx)
    | (clear hnx nx; clear hnx nx; clear hnx nx; with_reducible apply hnx; clear hnx nx))
    all_goals first
      | exact absurd trivial hc
      | skip
    · refine At_fr (by simp only [wkb, Nat.reduceEqDiff, Nat.reduceLT, ↓reduceIte]) ?_
      exact Hs.refl _
    · intro σ' nS' nT' hat
      refine hK σ' nS' nT' ra rb' _ _ _ ⟨i1.up (by omega), e3, ?_, ?_, ?_, ?_⟩ ⟨Ra, Rb', Ha, Hb', rfl, h1, hRb, h3, hEb⟩ hat
      · rw [List.length_append]
        omega
      · rw [List.length_append, List.length_append, List.length_replicate]
        omega
      · intro p hp
        rcases List.mem_append.1 hp with hp | hp
        · exact i5 p hp
        · exact pk.2 p hp
      · intro t ht
        rcases List.mem_append.1 ht with ht | ht
        · exact i6 t ht
        · rw [(List.mem_replicate.1 ht).2]
          omega
end Go.PM

namespace Go.PM
open Go.Proofs
attribute [local irreducible] W PCalls pcall pcallI WL
theorem runO_frz {a b c d N nS nT : Int} {ra rb : RE} {sent : List (List UInt8)} {to : List Nat} {H : Heap} {o : PObj} (xs : List PV) (hH : RunH a b c d ra rb H) (nd : (names ((N, o) :: runO nS nT sent to H)).Nodup) :
    (∀ x ∈ runO nS nT sent to H, x.1 ≠ N ∧ ∀ u ∈ x.2.cells, frz1 N xs u = u ∧ u.one = true) ∧ (nS = N) = False ∧ (nT = N) = False := by
  have h1 := (List.nodup_cons.1 nd).1
  simp only [runO, names, List.map_cons, List.mem_cons, not_or] at h1
  obtain ⟨k1, k2, k3⟩ := h1
  refine ⟨fun x hx => ?_, eq_false fun e => k2 e.symm, eq_false fun e => k1 e.symm⟩
  simp only [runO, List.mem_cons] at hx
  rcases hx with rfl | rfl | hx
  · refine ⟨fun e => k1 e.symm, fun u hu => ?_⟩
    obtain ⟨y, _, rfl⟩ := List.mem_map.1 hu
    exact ⟨rfl, rfl⟩
  · refine ⟨fun e => k2 e.symm, fun u hu => ?_⟩
    obtain ⟨y, _, rfl⟩ := List.mem_map.1 hu
    exact ⟨rfl, rfl⟩
  · exact run_frz xs hH k3 x hx
set_option maxRecDepth 100000 in
set_option maxHeartbeats 8000000 in
theorem runs_in2 (G : Globs) (key : UInt64) (l : List Int) (a b c d nS nT : Int) (sent : List (List UInt8)) (to : List Nat) (i : Nat) (hi : i < 60) (j : Nat) (hj : j < sent.length) (x : List UInt8) (hx : x.length ≤ 4294900000) (ra rb : RE) (H : Heap) (hI : RunI i key ra rb sent to) (hH : RunH a b c d ra rb H)
    (K : Exit → PState → Prop) (hK : ∀ σ' ra' rb' H', RunI (i + 1) key ra' rb' sent to → RunH a b c d ra' rb' H' → At σ' (runT key l a b c d nS nT sent to i H') → K .normal σ') :
    W Try.prog G [] (nav (Try.f3.body.getD .skip) [1, 1, 1, 1, 1, 1, 0, 1, 0, 0, 1, 0, 0, 1, 1, 0, 1, 0, 1, 1, 1, 1, 1, 1, 1, 1, 1, 1]) ⟨fr 258 ((19, pl x) :: (18, pn j) :: runL key l a b c d nS nT sent.length to.length i), runO nS nT sent to H⟩ K := by
  have hnm : True := trivial
  refine W_nd fun nd => ?_
  obtain ⟨hne, hn1, hn2⟩ := run_ne nd
  clear nd
  obtain ⟨Ra, Rb, Ha, Hb, rfl, h1, h2, h3, h4⟩ := hH
  obtain ⟨i1, i2, i3, i4, i5, i6⟩ := hI
  obtain ⟨t, hto⟩ : ∃ t, to[j]? = some t := ⟨_, List.getElem?_eq_getElem (by omega)⟩
  have ht2 : t < 2 := i6 t (List.mem_of_getElem? hto)
  have hk2 : t = 0 ∨ t = 1 := by omega
  rcases hk2 with rfl | rfl
  · have c1 : PCalls Try.prog G 19 [.ptr a 0, pl x] Ha (fun res H => res = .tuple [.list 1 ((inL (toL ra) x).1.1.map pl), pint .i64 (inL (toL ra) x).1.2] ∧ IsEnd a (inL (toL ra) x).2 H) := in_c G a (toL ra) x hx (i1.okE (by omega)) Ha h3
    have c2 : PCalls Try.prog G 20 [.ptr c 0, pl x] Ra (fun res H => ((inL (toL ra) x).1.1 = [] ∧ res = .tuple [.list 1 [], pint .i64 (inL (toL ra) x).1.2] ∧ IsRef c (frL ra (inL (toL ra) x).2) H) ∨ ∃ (n : Int) (H' : Heap), res = .tuple [.row n 1 (inL (toL ra) x).1.1.length, pint .i64 (inL (toL ra) x).1.2] ∧ H = (n, ⟨33, true, 1, (inL (toL ra) x).1.1.map pl⟩) :: H' ∧ IsRef c (frL ra (inL (toL ra) x).2) H') := rin_c G c ra x hx (i1.okR (by omega)) Ra h1
    obtain ⟨⟨e1, e2⟩, e3, e4⟩ := i1.in_ x
    have m1 := sameLists_c G (inL (toL ra) x).1.1 (inL (toL ra) x).1.1 (by omega) (fun x hx => by have := e4 x hx; omega)
    rw [decide_eq_true rfl] at m1
    rw [← e2] at c1
    generalize frL ra (inL (toL ra) x).2 = ra' at *
    generalize (inL (toL ra) x).1 = y at *
    obtain ⟨ml, er⟩ := y
    simp only at *
    simp only [Try.f3, nav, Option.getD_some]
    have c1 : PCalls Try.prog G 19 [.ptr a 0, pl x] Ha (fun res H => res = .tuple [.list 1 (ml.map pl), pint .i64 er] ∧ IsEnd a (toL ra') H) := c1
    with_reducible apply W_seq_k
    intro nx hnx
    repeat' (first
    | (with_reducible first | apply W_block | apply W_scope)
    | (with_reducible refine W_prune 3064992543233415047619612257985451157307474195171508167 ?_; simp only [prb, Nat.reducePow, Nat.reduceDiv, Nat.reduceMod, Nat.reduceBEq]; first | (with_reducible apply W_region_l) | with_reducible refine W_region_draw (id := 29) 3 (.op 0 true (.op 1 true (.op 2 true (.op 3 true (.op 4 true (.op 6 true (.op 7 true (.op 10 true (.alt 5 false (.alt 8 true (.alt 9 true (.op 11 false (.op 12 true (.done))) .stop) .stop) (.alt 8 true (.alt 5 false (.alt 9 true (.op 11 false (.op 12 true (.done))) .stop) (.alt 9 true (.op 5 false (.op 11 false (.op 12 true (.done)))) .stop)) .stop)))))))))) (by kernel_rfl) ?_ | with_reducible refine W_region_draw (id := 15) 3 (.op 0 true (.op 1 true (.op 2 true (.op 3 true (.op 4 true (.op 5 true (.op 6 true (.op 7 true (.op 8 true (.op 9 false (.op 10 true (.done)))))))))))) (by kernel_rfl) ?_ | with_reducible refine W_region_draw (id := 45) 1 (.op 0 true (.op 1 true (.op 2 true (.op 3 true (.op 5 true (.op 6 true (.op 7 true (.op 8 true (.op 9 true (.op 10 true (.op 11 true (.op 12 true (.op 13 true (.op 14 true (.op 15 true (.op 16 true (.op 17 true (.op 18 true (.op 19 true (.op 20 true (.op 4 true (.op 21 true (.op 22 true (.op 23 true (.op 24 true (.op 25 true (.op 26 true (.op 28 true (.op 29 true (.op 30 true (.op 31 true (.op 32 true (.op 33 true (.op 34 true (.op 27 true (.op 35 true (.op 36 true (.done)))))))))))))))))))))))))))))))))))))) (by kernel_rfl) ?_)
    | ((first | (with_reducible apply WL_op; intro nx hnx) | with_reducible refine Ev_out ?_ | (with_reducible apply popsD_op; intro nx hnx) | (with_reducible refine popsD_alt ?_ ?_; intro nx hnx) | (with_reducible refine pfresh_k hnm fun nm hnm => ?_; (try simp only [fmb] at hnm)) | (with_reducible refine pborn_mu hnm fun nm hnm => ?_; (try simp only [fmb] at hnm)) | (with_reducible refine pmaybe_k ?_; intro bn hbn)); try (simp (maxSteps := 2000000) (disch := omega) only [evb, evd, pbuiltin, constPV, pnck, seqK, blockK, scopeK, pbin, pun, ppick, plen, piaddr, pindex, pfield, pslice, pbound, pconv, pelems, pextract, pmm, PV.mem?, PV.one, PV.cells, pageq, peqs, peq1, pmakes, pstore, pbytes, pmark, psrc, pkey, pnile, pcap, pgrow, List.set, Value.cells, ↓popG_eq, ↓pop.eq_1, ↓List.getElem?_map, ↓List.getElem?_cons_zero, ↓List.getElem?_cons_succ, Value.oneCell', Nat.reduceAdd, Nat.reduceMul, Nat.reduceSub, Nat.reduceLeDiff, Nat.reduceEqDiff, ↓reduceIte, ne_eq, reduceCtorEq, forall_const, exists_and_left, exists_eq_left', eq_self, Nat.reduceLT, Int.reduceLT, Int.reduceLE, Int.reduceToNat, Int.reduceAdd, Int.reduceSub, Int.reduceNeg, hnm, Try.tf0, Try.tf1, Try.tf2, Try.tf3, Try.tf4, Try.tf5, Try.tf7, Try.tf22, Try.tf23, Try.tf24, Try.tf26, Try.tf28, Try.tf31, Try.tf32, Try.tf33, Try.tf34, Try.tf35, Try.tf43, Try.tf44, Try.tf65, Try.teq79, Try.call9, Try.call10, Try.call11, Try.call12, Try.call13, Try.call14, Try.call15, Try.call16, Try.call17, Try.call18, Try.call19, Try.call20, Try.call21, Try.call22, Try.call23, hne, hto]); repeat (refine And.intro (by omega) ?_))
    | ((with_reducible first | apply WL_nil | apply W_label | apply W_skip | apply W_exit | apply W_ret | apply popsD_done); try simp only [seqK, blockK, scopeK, ↓reduceIte, Nat.reduceEqDiff])
    | with_reducible exact popsD_stop
    | (with_reducible apply pguard_intro <;> (intro hc; (try simp only [hcb, reduceCtorEq, forall_const, ne_eq] at hc); first | (exfalso; omega) | (exfalso; exact hc trivial) | refine Ev_in ?_))
    | (with_reducible apply W_cond_k; intro _ _ ea eb; (simp only [condK, cob, opnd, constPV, Nat.reduceEqDiff, Nat.reduceLT, ↓reduceIte, hcb, reduceCtorEq, forall_const, ne_eq]); subst ea eb; first | (refine ⟨fun hc => ?_, fun hc => ?_⟩ <;> first | (exfalso; omega) | (exfalso; exact hc trivial) | skip) | skip)
    | (with_reducible apply hnx; clear hnx nx)
    | (with_reducible refine And.intro (by omega) ?_)
    | (with_reducible refine And.intro ?_ ?_)
    | (((with_reducible refine pcall_p3 c1 ?_); rintro _ Ha' ⟨rfl, hEa⟩; refine Ev_in ?_))
    | (clear hnx nx; with_reducible apply hnx; clear hnx nx)
    | (clear hnx nx; clear hnx nx; with_reducible apply hnx; clear hnx nx)
    | (clear hnx nx; clear hnx nx; clear hnx nx; with_reducible apply hnx; clear hnx nx))
    have hj : ∀ σ' Ra', IsRef c ra' Ra' → At σ' ⟨fr 258 ((20, .list 1 (ml.map pl)) :: (21, pint .i64 er) :: (22, .list 1 (ml.map pl)) :: (23, pint .i64 er) :: runL key l a b c d nS nT sent.length to.length i), runO nS nT sent to (Ra' ++ (Rb ++ (Hb ++ Ha')))⟩ → W Try.prog G [] (nav (Try.f3.body.getD .skip) [1, 1, 1, 1, 1, 1, 0, 1, 0, 0, 1, 0, 0, 1, 1, 0, 1, 0, 1, 1, 1, 1, 1, 1, 1, 1, 1, 1, 1, 1]) σ' K := by
      intro σ' Ra' hRa hat
      refine W_at hat ?_
      simp only [Try.f3, nav, Option.getD_some]
      repeat' (first
    | (with_reducible apply W_seq_k; intro nx hnx)
    | (with_reducible first | apply W_block | apply W_scope)
    | (with_reducible refine W_prune 3064992543233415047619612257985451157307474195171508167 ?_; simp only [prb, Nat.reducePow, Nat.reduceDiv, Nat.reduceMod, Nat.reduceBEq]; first | (with_reducible apply W_region_l) | with_reducible refine W_region_draw (id := 29) 3 (.op 0 true (.op 1 true (.op 2 true (.op 3 true (.op 4 true (.op 6 true (.op 7 true (.op 10 true (.alt 5 false (.alt 8 true (.alt 9 true (.op 11 false (.op 12 true (.done))) .stop) .stop) (.alt 8 true (.alt 5 false (.alt 9 true (.op 11 false (.op 12 true (.done))) .stop) (.alt 9 true (.op 5 false (.op 11 false (.op 12 true (.done)))) .stop)) .stop)))))))))) (by kernel_rfl) ?_ | with_reducible refine W_region_draw (id := 15) 3 (.op 0 true (.op 1 true (.op 2 true (.op 3 true (.op 4 true (.op 5 true (.op 6 true (.op 7 true (.op 8 true (.op 9 false (.op 10 true (.done)))))))))))) (by kernel_rfl) ?_ | with_reducible refine W_region_draw (id := 45) 1 (.op 0 true (.op 1 true (.op 2 true (.op 3 true (.op 5 true (.op 6 true (.op 7 true (.op 8 true (.op 9 true (.op 10 true (.op 11 true (.op 12 true (.op 13 true (.op 14 true (.op 15 true (.op 16 true (.op 17 true (.op 18 true (.op 19 true (.op 20 true (.op 4 true (.op 21 true (.op 22 true (.op 23 true (.op 24 true (.op 25 true (.op 26 true (.op 28 true (.op 29 true (.op 30 true (.op 31 true (.op 32 true (.op 33 true (.op 34 true (.op 27 true (.op 35 true (.op 36 true (.done)))))))))))))))))))))))))))))))))))))) (by kernel_rfl) ?_)
    | ((first | (with_reducible apply WL_op; intro nx hnx) | with_reducible refine Ev_out ?_ | (with_reducible apply popsD_op; intro nx hnx) | (with_reducible refine popsD_alt ?_ ?_; intro nx hnx) | (with_reducible refine pfresh_k hnm fun nm hnm => ?_; (try simp only [fmb] at hnm)) | (with_reducible refine pborn_mu hnm fun nm hnm => ?_; (try simp only [fmb] at hnm)) | (with_reducible refine pmaybe_k ?_; intro bn hbn)); try (simp (maxSteps := 2000000) (disch := omega) only [evb, evd, pbuiltin, constPV, pnck, seqK, blockK, scopeK, pbin, pun, ppick, plen, piaddr, pindex, pfield, pslice, pbound, pconv, pelems, pextract, pmm, PV.mem?, PV.one, PV.cells, pageq, peqs, peq1, pmakes, pstore, pbytes, pmark, psrc, pkey, pnile, pcap, pgrow, List.set, Value.cells, ↓popG_eq, ↓pop.eq_1, ↓List.getElem?_map, ↓List.getElem?_cons_zero, ↓List.getElem?_cons_succ, Value.oneCell', Nat.reduceAdd, Nat.reduceMul, Nat.reduceSub, Nat.reduceLeDiff, Nat.reduceEqDiff, ↓reduceIte, ne_eq, reduceCtorEq, forall_const, exists_and_left, exists_eq_left', eq_self, Nat.reduceLT, Int.reduceLT, Int.reduceLE, Int.reduceToNat, Int.reduceAdd, Int.reduceSub, Int.reduceNeg, hnm, Try.tf0, Try.tf1, Try.tf2, Try.tf3, Try.tf4, Try.tf5, Try.tf7, Try.tf22, Try.tf23, Try.tf24, Try.tf26, Try.tf28, Try.tf31, Try.tf32, Try.tf33, Try.tf34, Try.tf35, Try.tf43, Try.tf44, Try.tf65, Try.teq79, Try.call9, Try.call10, Try.call11, Try.call12, Try.call13, Try.call14, Try.call15, Try.call16, Try.call17, Try.call18, Try.call19, Try.call20, Try.call21, Try.call22, Try.call23]); repeat (refine And.intro (by omega) ?_))
    | ((with_reducible first | apply WL_nil | apply W_label | apply W_skip | apply W_exit | apply W_ret | apply popsD_done); try simp only [seqK, blockK, scopeK, ↓reduceIte, Nat.reduceEqDiff])
    | with_reducible exact popsD_stop
    | (with_reducible apply pguard_intro <;> (intro hc; (try simp only [hcb, reduceCtorEq, forall_const, ne_eq] at hc); first | (exfalso; omega) | (exfalso; exact hc trivial) | refine Ev_in ?_))
    | (with_reducible apply W_cond_k; intro _ _ ea eb; (simp only [condK, cob, opnd, constPV, Nat.reduceEqDiff, Nat.reduceLT, ↓reduceIte, hcb, reduceCtorEq, forall_const, ne_eq]); subst ea eb; first | (refine ⟨fun hc => ?_, fun hc => ?_⟩ <;> first | (exfalso; omega) | (exfalso; exact hc trivial) | skip) | skip)
    | (with_reducible apply hnx; clear hnx nx)
    | (with_reducible refine And.intro (by omega) ?_)
    | (with_reducible refine And.intro ?_ ?_)
    | (with_reducible refine pcall_k (m1) ?_; rintro _ _ ⟨rfl, rfl⟩ -; refine Ev_in ?_)
    | (clear hnx nx; with_reducible apply hnx; clear hnx nx)
    | (clear hnx nx; clear hnx nx; with_reducible apply hnx; clear hnx nx)
    | (clear hnx nx; clear hnx nx; clear hnx nx; with_reducible apply hnx; clear hnx nx))
      all_goals first
        | exact absurd trivial hc
        | skip
      refine hK _ ra' rb _ ⟨e1, i2.up (by omega), by omega, i4, i5, i6⟩ ⟨Ra', Rb, Ha', Hb, rfl, hRa, h2, hEa, h4⟩ ?_
      refine At_fr (by simp only [wkb, Nat.reduceEqDiff, Nat.reduceLT, ↓reduceIte]) ?_
      exact Hs.refl _
    simp only [Try.f3, nav, Option.getD_some] at hj
    with_reducible apply W_seq_k
    intro nx hnx
    repeat' (first
    | (with_reducible first | apply W_block | apply W_scope)
    | (with_reducible refine W_prune 3064992543233415047619612257985451157307474195171508167 ?_; simp only [prb, Nat.reducePow, Nat.reduceDiv, Nat.reduceMod, Nat.reduceBEq]; first | (with_reducible apply W_region_l) | with_reducible refine W_region_draw (id := 29) 3 (.op 0 true (.op 1 true (.op 2 true (.op 3 true (.op 4 true (.op 6 true (.op 7 true (.op 10 true (.alt 5 false (.alt 8 true (.alt 9 true (.op 11 false (.op 12 true (.done))) .stop) .stop) (.alt 8 true (.alt 5 false (.alt 9 true (.op 11 false (.op 12 true (.done))) .stop) (.alt 9 true (.op 5 false (.op 11 false (.op 12 true (.done)))) .stop)) .stop)))))))))) (by kernel_rfl) ?_ | with_reducible refine W_region_draw (id := 15) 3 (.op 0 true (.op 1 true (.op 2 true (.op 3 true (.op 4 true (.op 5 true (.op 6 true (.op 7 true (.op 8 true (.op 9 false (.op 10 true (.done)))))))))))) (by kernel_rfl) ?_ | with_reducible refine W_region_draw (id := 45) 1 (.op 0 true (.op 1 true (.op 2 true (.op 3 true (.op 5 true (.op 6 true (.op 7 true (.op 8 true (.op 9 true (.op 10 true (.op 11 true (.op 12 true (.op 13 true (.op 14 true (.op 15 true (.op 16 true (.op 17 true (.op 18 true (.op 19 true (.op 20 true (.op 4 true (.op 21 true (.op 22 true (.op 23 true (.op 24 true (.op 25 true (.op 26 true (.op 28 true (.op 29 true (.op 30 true (.op 31 true (.op 32 true (.op 33 true (.op 34 true (.op 27 true (.op 35 true (.op 36 true (.done)))))))))))))))))))))))))))))))))))))) (by kernel_rfl) ?_)
    | ((first | (with_reducible apply WL_op; intro nx hnx) | with_reducible refine Ev_out ?_ | (with_reducible apply popsD_op; intro nx hnx) | (with_reducible refine popsD_alt ?_ ?_; intro nx hnx) | (with_reducible refine pfresh_k hnm fun nm hnm => ?_; (try simp only [fmb] at hnm)) | (with_reducible refine pborn_mu hnm fun nm hnm => ?_; (try simp only [fmb] at hnm)) | (with_reducible refine pmaybe_k ?_; intro bn hbn)); try (simp (maxSteps := 2000000) (disch := omega) only [evb, evd, pbuiltin, constPV, pnck, seqK, blockK, scopeK, pbin, pun, ppick, plen, piaddr, pindex, pfield, pslice, pbound, pconv, pelems, pextract, pmm, PV.mem?, PV.one, PV.cells, pageq, peqs, peq1, pmakes, pstore, pbytes, pmark, psrc, pkey, pnile, pcap, pgrow, List.set, Value.cells, ↓popG_eq, ↓pop.eq_1, ↓List.getElem?_map, ↓List.getElem?_cons_zero, ↓List.getElem?_cons_succ, Value.oneCell', Nat.reduceAdd, Nat.reduceMul, Nat.reduceSub, Nat.reduceLeDiff, Nat.reduceEqDiff, ↓reduceIte, ne_eq, reduceCtorEq, forall_const, exists_and_left, exists_eq_left', eq_self, Nat.reduceLT, Int.reduceLT, Int.reduceLE, Int.reduceToNat, Int.reduceAdd, Int.reduceSub, Int.reduceNeg, hnm, Try.tf0, Try.tf1, Try.tf2, Try.tf3, Try.tf4, Try.tf5, Try.tf7, Try.tf22, Try.tf23, Try.tf24, Try.tf26, Try.tf28, Try.tf31, Try.tf32, Try.tf33, Try.tf34, Try.tf35, Try.tf43, Try.tf44, Try.tf65, Try.teq79, Try.call9, Try.call10, Try.call11, Try.call12, Try.call13, Try.call14, Try.call15, Try.call16, Try.call17, Try.call18, Try.call19, Try.call20, Try.call21, Try.call22, Try.call23, hne, hto]); repeat (refine And.intro (by omega) ?_))
    | ((with_reducible first | apply WL_nil | apply W_label | apply W_skip | apply W_exit | apply W_ret | apply popsD_done); try simp only [seqK, blockK, scopeK, ↓reduceIte, Nat.reduceEqDiff])
    | with_reducible exact popsD_stop
    | (with_reducible apply pguard_intro <;> (intro hc; (try simp only [hcb, reduceCtorEq, forall_const, ne_eq] at hc); first | (exfalso; omega) | (exfalso; exact hc trivial) | refine Ev_in ?_))
    | (with_reducible apply W_cond_k; intro _ _ ea eb; (simp only [condK, cob, opnd, constPV, Nat.reduceEqDiff, Nat.reduceLT, ↓reduceIte, hcb, reduceCtorEq, forall_const, ne_eq]); subst ea eb; first | (refine ⟨fun hc => ?_, fun hc => ?_⟩ <;> first | (exfalso; omega) | (exfalso; exact hc trivial) | skip) | skip)
    | (with_reducible apply hnx; clear hnx nx)
    | (with_reducible refine And.intro (by omega) ?_)
    | (with_reducible refine And.intro ?_ ?_)
    | (((with_reducible refine pcall_p0 c2 ?_); rintro _ Ra' (⟨hnil, rfl, hRa⟩ | ⟨N, Ra', rfl, rfl, hRa⟩); all_goals refine Ev_in ?_))
    | (clear hnx nx; with_reducible apply hnx; clear hnx nx)
    | (clear hnx nx; clear hnx nx; with_reducible apply hnx; clear hnx nx)
    | (clear hnx nx; clear hnx nx; clear hnx nx; with_reducible apply hnx; clear hnx nx))
    · subst hnil
      refine hj _ Ra' hRa ?_
      refine At_fr (by simp only [wkb, Nat.reduceEqDiff, Nat.reduceLT, ↓reduceIte, List.map_nil]) ?_
      exact Hs.refl _
    · have hR : RunH a b c d ra' rb (Ra' ++ (Rb ++ (Hb ++ Ha'))) := ⟨Ra', Rb, Ha', Hb, rfl, hRa, h2, hEa, h4⟩
      refine W_at (τ := ⟨fr 258 ((22, .row N 1 ml.length) :: (20, .list 1 (ml.map pl)) :: (21, pint .i64 er) :: (23, pint .i64 er) :: runL key l a b c d nS nT sent.length to.length i), (N, ⟨33, true, 1, ml.map pl⟩) :: runO nS nT sent to (Ra' ++ (Rb ++ (Hb ++ Ha')))⟩) ?_ ?_
      · refine At_fr (by simp only [wkb, Nat.reduceEqDiff, Nat.reduceLT, ↓reduceIte]) ?_
        exact Hs.perm (List.perm_middle (l₁ := [_, _]))
      refine W_nd fun nd => ?_
      obtain ⟨f1, f2, f3⟩ := runO_frz (ml.map pl) hR nd
      refine W_x (Wx_slot (by simp) (by rw [List.length_map]) (by simp [frz, frz1, f2, f3]) f1) ?_
      refine hj _ Ra' hRa ?_
      refine At_fr (by simp only [wkb, Nat.reduceEqDiff, Nat.reduceLT, ↓reduceIte]) ?_
      exact Hs.refl _
  · have c1 : PCalls Try.prog G 19 [.ptr b 0, pl x] Hb (fun res H => res = .tuple [.list 1 ((inL (toL rb) x).1.1.map pl), pint .i64 (inL (toL rb) x).1.2] ∧ IsEnd b (inL (toL rb) x).2 H) := in_c G b (toL rb) x hx (i2.okE (by omega)) Hb h4
    have c2 : PCalls Try.prog G 20 [.ptr d 0, pl x] Rb (fun res H => ((inL (toL rb) x).1.1 = [] ∧ res = .tuple [.list 1 [], pint .i64 (inL (toL rb) x).1.2] ∧ IsRef d (frL rb (inL (toL rb) x).2) H) ∨ ∃ (n : Int) (H' : Heap), res = .tuple [.row n 1 (inL (toL rb) x).1.1.length, pint .i64 (inL (toL rb) x).1.2] ∧ H = (n, ⟨33, true, 1, (inL (toL rb) x).1.1.map pl⟩) :: H' ∧ IsRef d (frL rb (inL (toL rb) x).2) H') := rin_c G d rb x hx (i2.okR (by omega)) Rb h2
    obtain ⟨⟨e1, e2⟩, e3, e4⟩ := i2.in_ x
    have m1 := sameLists_c G (inL (toL rb) x).1.1 (inL (toL rb) x).1.1 (by omega) (fun x hx => by have := e4 x hx; omega)
    rw [decide_eq_true rfl] at m1
    rw [← e2] at c1
    generalize frL rb (inL (toL rb) x).2 = rb' at *
    generalize (inL (toL rb) x).1 = y at *
    obtain ⟨ml, er⟩ := y
    simp only at *
    simp only [Try.f3, nav, Option.getD_some]
    have c1 : PCalls Try.prog G 19 [.ptr b 0, pl x] Hb (fun res H => res = .tuple [.list 1 (ml.map pl), pint .i64 er] ∧ IsEnd b (toL rb') H) := c1
    with_reducible apply W_seq_k
    intro nx hnx
    repeat' (first
    | (with_reducible first | apply W_block | apply W_scope)
    | (with_reducible refine W_prune 3064992543233415047619612257985451157307474195171508167 ?_; simp only [prb, Nat.reducePow, Nat.reduceDiv, Nat.reduceMod, Nat.reduceBEq]; first | (with_reducible apply W_region_l) | with_reducible refine W_region_draw (id := 29) 3 (.op 0 true (.op 1 true (.op 2 true (.op 3 true (.op 4 true (.op 6 true (.op 7 true (.op 10 true (.alt 5 false (.alt 8 true (.alt 9 true (.op 11 false (.op 12 true (.done))) .stop) .stop) (.alt 8 true (.alt 5 false (.alt 9 true (.op 11 false (.op 12 true (.done))) .stop) (.alt 9 true (.op 5 false (.op 11 false (.op 12 true (.done)))) .stop)) .stop)))))))))) (by kernel_rfl) ?_ | with_reducible refine W_region_draw (id := 15) 3 (.op 0 true (.op 1 true (.op 2 true (.op 3 true (.op 4 true (.op 5 true (.op 6 true (.op 7 true (.op 8 true (.op 9 false (.op 10 true (.done)))))))))))) (by kernel_rfl) ?_ | with_reducible refine W_region_draw (id := 45) 1 (.op 0 true (.op 1 true (.op 2 true (.op 3 true (.op 5 true (.op 6 true (.op 7 true (.op 8 true (.op 9 true (.op 10 true (.op 11 true (.op 12 true (.op 13 true (.op 14 true (.op 15 true (.op 16 true (.op 17 true (.op 18 true (.op 19 true (.op 20 true (.op 4 true (.op 21 true (.op 22 true (.op 23 true (.op 24 true (.op 25 true (.op 26 true (.op 28 true (.op 29 true (.op 30 true (.op 31 true (.op 32 true (.op 33 true (.op 34 true (.op 27 true (.op 35 true (.op 36 true (.done)))))))))))))))))))))))))))))))))))))) (by kernel_rfl) ?_)
    | ((first | (with_reducible apply WL_op; intro nx hnx) | with_reducible refine Ev_out ?_ | (with_reducible apply popsD_op; intro nx hnx) | (with_reducible refine popsD_alt ?_ ?_; intro nx hnx) | (with_reducible refine pfresh_k hnm fun nm hnm => ?_; (try simp only [fmb] at hnm)) | (with_reducible refine pborn_mu hnm fun nm hnm => ?_; (try simp only [fmb] at hnm)) | (with_reducible refine pmaybe_k ?_; intro bn hbn)); try (simp (maxSteps := 2000000) (disch := omega) only [evb, evd, pbuiltin, constPV, pnck, seqK, blockK, scopeK, pbin, pun, ppick, plen, piaddr, pindex, pfield, pslice, pbound, pconv, pelems, pextract, pmm, PV.mem?, PV.one, PV.cells, pageq, peqs, peq1, pmakes, pstore, pbytes, pmark, psrc, pkey, pnile, pcap, pgrow, List.set, Value.cells, ↓popG_eq, ↓pop.eq_1, ↓List.getElem?_map, ↓List.getElem?_cons_zero, ↓List.getElem?_cons_succ, Value.oneCell', Nat.reduceAdd, Nat.reduceMul, Nat.reduceSub, Nat.reduceLeDiff, Nat.reduceEqDiff, ↓reduceIte, ne_eq, reduceCtorEq, forall_const, exists_and_left, exists_eq_left', eq_self, Nat.reduceLT, Int.reduceLT, Int.reduceLE, Int.reduceToNat, Int.reduceAdd, Int.reduceSub, Int.reduceNeg, hnm, Try.tf0, Try.tf1, Try.tf2, Try.tf3, Try.tf4, Try.tf5, Try.tf7, Try.tf22, Try.tf23, Try.tf24, Try.tf26, Try.tf28, Try.tf31, Try.tf32, Try.tf33, Try.tf34, Try.tf35, Try.tf43, Try.tf44, Try.tf65, Try.teq79, Try.call9, Try.call10, Try.call11, Try.call12, Try.call13, Try.call14, Try.call15, Try.call16, Try.call17, Try.call18, Try.call19, Try.call20, Try.call21, Try.call22, Try.call23, hne, hto]); repeat (refine And.intro (by omega) ?_))
    | ((with_reducible first | apply WL_nil | apply W_label | apply W_skip | apply W_exit | apply W_ret | apply popsD_done); try simp only [seqK, blockK, scopeK, ↓reduceIte, Nat.reduceEqDiff])
    | with_reducible exact popsD_stop
    | (with_reducible apply pguard_intro <;> (intro hc; (try simp only [hcb, reduceCtorEq, forall_const, ne_eq] at hc); first | (exfalso; omega) | (exfalso; exact hc trivial) | refine Ev_in ?_))
    | (with_reducible apply W_cond_k; intro _ _ ea eb; (simp only [condK, cob, opnd, constPV, Nat.reduceEqDiff, Nat.reduceLT, ↓reduceIte, hcb, reduceCtorEq, forall_const, ne_eq]); subst ea eb; first | (refine ⟨fun hc => ?_, fun hc => ?_⟩ <;> first | (exfalso; omega) | (exfalso; exact hc trivial) | skip) | skip)
    | (with_reducible apply hnx; clear hnx nx)
    | (with_reducible refine And.intro (by omega) ?_)
    | (with_reducible refine And.intro ?_ ?_)
    | (((with_reducible refine pcall_p2 c1 ?_); rintro _ Hb' ⟨rfl, hEb⟩; refine Ev_in ?_))
    | (clear hnx nx; with_reducible apply hnx; clear hnx nx)
    | (clear hnx nx; clear hnx nx; with_reducible apply hnx; clear hnx nx)
    | (clear hnx nx; clear hnx nx; clear hnx nx; with_reducible apply hnx; clear hnx nx))
    have hj : ∀ σ' Rb', IsRef d rb' Rb' → At σ' ⟨fr 258 ((20, .list 1 (ml.map pl)) :: (21, pint .i64 er) :: (22, .list 1 (ml.map pl)) :: (23, pint .i64 er) :: runL key l a b c d nS nT sent.length to.length i), runO nS nT sent to (Ra ++ (Rb' ++ (Hb' ++ Ha)))⟩ → W Try.prog G [] (nav (Try.f3.body.getD .skip) [1, 1, 1, 1, 1, 1, 0, 1, 0, 0, 1, 0, 0, 1, 1, 0, 1, 0, 1, 1, 1, 1, 1, 1, 1, 1, 1, 1, 1, 1]) σ' K := by
      intro σ' Rb' hRb hat
      refine W_at hat ?_
      simp only [Try.f3, nav, Option.getD_some]
      repeat' (first
    | (with_reducible apply W_seq_k; intro nx hnx)
    | (with_reducible first | apply W_block | apply W_scope)
    | (with_reducible refine W_prune 3064992543233415047619612257985451157307474195171508167 ?_; simp only [prb, Nat.reducePow, Nat.reduceDiv, Nat.reduceMod, Nat.reduceBEq]; first | (with_reducible apply W_region_l) | with_reducible refine W_region_draw (id := 29) 3 (.op 0 true (.op 1 true (.op 2 true (.op 3 true (.op 4 true (.op 6 true (.op 7 true (.op 10 true (.alt 5 false (.alt 8 true (.alt 9 true (.op 11 false (.op 12 true (.done))) .stop) .stop) (.alt 8 true (.alt 5 false (.alt 9 true (.op 11 false (.op 12 true (.done))) .stop) (.alt 9 true (.op 5 false (.op 11 false (.op 12 true (.done)))) .stop)) .stop)))))))))) (by kernel_rfl) ?_ | with_reducible refine W_region_draw (id := 15) 3 (.op 0 true (.op 1 true (.op 2 true (.op 3 true (.op 4 true (.op 5 true (.op 6 true (.op 7 true (.op 8 true (.op 9 false (.op 10 true (.done)))))))))))) (by kernel_rfl) ?_ | with_reducible refine W_region_draw (id := 45) 1 (.op 0 true (.op 1 true (.op 2 true (.op 3 true (.op 5 true (.op 6 true (.op 7 true (.op 8 true (.op 9 true (.op 10 true (.op 11 true (.op 12 true (.op 13 true (.op 14 true (.op 15 true (.op 16 true (.op 17 true (.op 18 true (.op 19 true (.op 20 true (.op 4 true (.op 21 true (.op 22 true (.op 23 true (.op 24 true (.op 25 true (.op 26 true (.op 28 true (.op 29 true (.op 30 true (.op 31 true (.op 32 true (.op 33 true (.op 34 true (.op 27 true (.op 35 true (.op 36 true (.done)))))))))))))))))))))))))))))))))))))) (by kernel_rfl) ?_)
    | ((first | (with_reducible apply WL_op; intro nx hnx) | with_reducible refine Ev_out ?_ | (with_reducible apply popsD_op; intro nx hnx) | (with_reducible refine popsD_alt ?_ ?_; intro nx hnx) | (with_reducible refine pfresh_k hnm fun nm hnm => ?_; (try simp only [fmb] at hnm)) | (with_reducible refine pborn_mu hnm fun nm hnm => ?_; (try simp only [fmb] at hnm)) | (with_reducible refine pmaybe_k ?_; intro bn hbn)); try (simp (maxSteps := 2000000) (disch := omega) only [evb, evd, pbuiltin, constPV, pnck, seqK, blockK, scopeK, pbin, pun, ppick, plen, piaddr, pindex, pfield, pslice, pbound, pconv, pelems, pextract, pmm, PV.mem?, PV.one, PV.cells, pageq, peqs, peq1, pmakes, pstore, pbytes, pmark, psrc, pkey, pnile, pcap, pgrow, List.set, Value.cells, ↓popG_eq, ↓pop.eq_1, ↓List.getElem?_map, ↓List.getElem?_cons_zero, ↓List.getElem?_cons_succ, Value.oneCell', Nat.reduceAdd, Nat.reduceMul, Nat.reduceSub, Nat.reduceLeDiff, Nat.reduceEqDiff, ↓reduceIte, ne_eq, reduceCtorEq, forall_const, exists_and_left, exists_eq_left', eq_self, Nat.reduceLT, Int.reduceLT, Int.reduceLE, Int.reduceToNat, Int.reduceAdd, Int.reduceSub, Int.reduceNeg, hnm, Try.tf0, Try.tf1, Try.tf2, Try.tf3, Try.tf4, Try.tf5, Try.tf7, Try.tf22, Try.tf23, Try.tf24, Try.tf26, Try.tf28, Try.tf31, Try.tf32, Try.tf33, Try.tf34, Try.tf35, Try.tf43, Try.tf44, Try.tf65, Try.teq79, Try.call9, Try.call10, Try.call11, Try.call12, Try.call13, Try.call14, Try.call15, Try.call16, Try.call17, Try.call18, Try.call19, Try.call20, Try.call21, Try.call22, Try.call23]); repeat (refine And.intro (by omega) ?_))
    | ((with_reducible first | apply WL_nil | apply W_label | apply W_skip | apply W_exit | apply W_ret | apply popsD_done); try simp only [seqK, blockK, scopeK, ↓reduceIte, Nat.reduceEqDiff])
    | with_reducible exact popsD_stop
    | (with_reducible apply pguard_intro <;> (intro hc; (try simp only [hcb, reduceCtorEq, forall_const, ne_eq] at hc); first | (exfalso; omega) | (exfalso; exact hc trivial) | refine Ev_in ?_))
    | (with_reducible apply W_cond_k; intro _ _ ea eb; (simp only [condK, cob, opnd, constPV, Nat.reduceEqDiff, Nat.reduceLT, ↓reduceIte, hcb, reduceCtorEq, forall_const, ne_eq]); subst ea eb; first | (refine ⟨fun hc => ?_, fun hc => ?_⟩ <;> first | (exfalso; omega) | (exfalso; exact hc trivial) | skip) | skip)
    | (with_reducible apply hnx; clear hnx nx)
    | (with_reducible refine And.intro (by omega) ?_)
    | (with_reducible refine And.intro ?_ ?_)
    | (with_reducible refine pcall_k (m1) ?_; rintro _ _ ⟨rfl, rfl⟩ -; refine Ev_in ?_)
    | (clear hnx nx; with_reducible apply hnx; clear hnx nx)
    | (clear hnx nx; clear hnx nx; with_reducible apply hnx; clear hnx nx)
    | (clear hnx nx; clear hnx nx; clear hnx nx; with_reducible apply hnx; clear hnx nx))
      all_goals first
        | exact absurd trivial hc
        | skip
      refine hK _ ra rb' _ ⟨i1.up (by omega), e1, by omega, i4, i5, i6⟩ ⟨Ra, Rb', Ha, Hb', rfl, h1, hRb, h3, hEb⟩ ?_
      refine At_fr (by simp only [wkb, Nat.reduceEqDiff, Nat.reduceLT, ↓reduceIte]) ?_
      exact Hs.refl _
    simp only [Try.f3, nav, Option.getD_some] at hj
    with_reducible apply W_seq_k
    intro nx hnx
    repeat' (first
    | (with_reducible first | apply W_block | apply W_scope)
    | (with_reducible refine W_prune 3064992543233415047619612257985451157307474195171508167 ?_; simp only [prb, Nat.reducePow, Nat.reduceDiv, Nat.reduceMod, Nat.reduceBEq]; first | (with_reducible apply W_region_l) | with_reducible refine W_region_draw (id := 29) 3 (.op 0 true (.op 1 true (.op 2 true (.op 3 true (.op 4 true (.op 6 true (.op 7 true (.op 10 true (.alt 5 false (.alt 8 true (.alt 9 true (.op 11 false (.op 12 true (.done))) .stop) .stop) (.alt 8 true (.alt 5 false (.alt 9 true (.op 11 false (.op 12 true (.done))) .stop) (.alt 9 true (.op 5 false (.op 11 false (.op 12 true (.done)))) .stop)) .stop)))))))))) (by kernel_rfl) ?_ | with_reducible refine W_region_draw (id := 15) 3 (.op 0 true (.op 1 true (.op 2 true (.op 3 true (.op 4 true (.op 5 true (.op 6 true (.op 7 true (.op 8 true (.op 9 false (.op 10 true (.done)))))))))))) (by kernel_rfl) ?_ | with_reducible refine W_region_draw (id := 45) 1 (.op 0 true (.op 1 true (.op 2 true (.op 3 true (.op 5 true (.op 6 true (.op 7 true (.op 8 true (.op 9 true (.op 10 true (.op 11 true (.op 12 true (.op 13 true (.op 14 true (.op 15 true (.op 16 true (.op 17 true (.op 18 true (.op 19 true (.op 20 true (.op 4 true (.op 21 true (.op 22 true (.op 23 true (.op 24 true (.op 25 true (.op 26 true (.op 28 true (.op 29 true (.op 30 true (.op 31 true (.op 32 true (.op 33 true (.op 34 true (.op 27 true (.op 35 true (.op 36 true (.done)))))))))))))))))))))))))))))))))))))) (by kernel_rfl) ?_)
    | ((first | (with_reducible apply WL_op; intro nx hnx) | with_reducible refine Ev_out ?_ | (with_reducible apply popsD_op; intro nx hnx) | (with_reducible refine popsD_alt ?_ ?_; intro nx hnx) | (with_reducible refine pfresh_k hnm fun nm hnm => ?_; (try simp only [fmb] at hnm)) | (with_reducible refine pborn_mu hnm fun nm hnm => ?_; (try simp only [fmb] at hnm)) | (with_reducible refine pmaybe_k ?_; intro bn hbn)); try (simp (maxSteps := 2000000) (disch := omega) only [evb, evd, pbuiltin, constPV, pnck, seqK, blockK, scopeK, pbin, pun, ppick, plen, piaddr, pindex, pfield, pslice, pbound, pconv, pelems, pextract, pmm, PV.mem?, PV.one, PV.cells, pageq, peqs, peq1, pmakes, pstore, pbytes, pmark, psrc, pkey, pnile, pcap, pgrow, List.set, Value.cells, ↓popG_eq, ↓pop.eq_1, ↓List.getElem?_map, ↓List.getElem?_cons_zero, ↓List.getElem?_cons_succ, Value.oneCell', Nat.reduceAdd, Nat.reduceMul, Nat.reduceSub, Nat.reduceLeDiff, Nat.reduceEqDiff, ↓reduceIte, ne_eq, reduceCtorEq, forall_const, exists_and_left, exists_eq_left', eq_self, Nat.reduceLT, Int.reduceLT, Int.reduceLE, Int.reduceToNat, Int.reduceAdd, Int.reduceSub, Int.reduceNeg, hnm, Try.tf0, Try.tf1, Try.tf2, Try.tf3, Try.tf4, Try.tf5, Try.tf7, Try.tf22, Try.tf23, Try.tf24, Try.tf26, Try.tf28, Try.tf31, Try.tf32, Try.tf33, Try.tf34, Try.tf35, Try.tf43, Try.tf44, Try.tf65, Try.teq79, Try.call9, Try.call10, Try.call11, Try.call12, Try.call13, Try.call14, Try.call15, Try.call16, Try.call17, Try.call18, Try.call19, Try.call20, Try.call21, Try.call22, Try.call23, hne, hto]); repeat (refine And.intro (by omega) ?_))
    | ((with_reducible first | apply WL_nil | apply W_label | apply W_skip | apply W_exit | apply W_ret | apply popsD_done); try simp only [seqK, blockK, scopeK, ↓reduceIte, Nat.reduceEqDiff])
    | with_reducible exact popsD_stop
    | (with_reducible apply pguard_intro <;> (intro hc; (try simp only [hcb, reduceCtorEq, forall_const, ne_eq] at hc); first | (exfalso; omega) | (exfalso; exact hc trivial) | refine Ev_in ?_))
    | (with_reducible apply W_cond_k; intro _ _ ea eb; (simp only [condK, cob, opnd, constPV, Nat.reduceEqDiff, Nat.reduceLT, ↓reduceIte, hcb, reduceCtorEq, forall_const, ne_eq]); subst ea eb; first | (refine ⟨fun hc => ?_, fun hc => ?_⟩ <;> first | (exfalso; omega) | (exfalso; exact hc trivial) | skip) | skip)
    | (with_reducible apply hnx; clear hnx nx)
    | (with_reducible refine And.intro (by omega) ?_)
    | (with_reducible refine And.intro ?_ ?_)
    | (((with_reducible refine pcall_p1 c2 ?_); rintro _ Rb' (⟨hnil, rfl, hRb⟩ | ⟨N, Rb', rfl, rfl, hRb⟩); all_goals refine Ev_in ?_))
    | (clear hnx nx; with_reducible apply hnx; clear hnx nx)
    | (clear hnx nx; clear hnx nx; with_reducible apply hnx; clear hnx nx)
    | (clear hnx nx; clear hnx nx; clear hnx nx; with_reducible apply hnx; clear hnx nx))
    · subst hnil
      refine hj _ Rb' hRb ?_
      refine At_fr (by simp only [wkb, Nat.reduceEqDiff, Nat.reduceLT, ↓reduceIte, List.map_nil]) ?_
      exact Hs.refl _
    · have hR : RunH a b c d ra rb' (Ra ++ (Rb' ++ (Hb' ++ Ha))) := ⟨Ra, Rb', Ha, Hb', rfl, h1, hRb, h3, hEb⟩
      refine W_at (τ := ⟨fr 258 ((22, .row N 1 ml.length) :: (20, .list 1 (ml.map pl)) :: (21, pint .i64 er) :: (23, pint .i64 er) :: runL key l a b c d nS nT sent.length to.length i), (N, ⟨33, true, 1, ml.map pl⟩) :: runO nS nT sent to (Ra ++ (Rb' ++ (Hb' ++ Ha)))⟩) ?_ ?_
      · refine At_fr (by simp only [wkb, Nat.reduceEqDiff, Nat.reduceLT, ↓reduceIte]) ?_
        exact Hs.perm (List.perm_middle (l₁ := _ :: _ :: Ra))
      refine W_nd fun nd => ?_
      obtain ⟨f1, f2, f3⟩ := runO_frz (ml.map pl) hR nd
      refine W_x (Wx_slot (by simp) (by rw [List.length_map]) (by simp [frz, frz1, f2, f3]) f1) ?_
      refine hj _ Rb' hRb ?_
      refine At_fr (by simp only [wkb, Nat.reduceEqDiff, Nat.reduceLT, ↓reduceIte]) ?_
      exact Hs.refl _
end Go.PM
