/- Joined texts (Sm): the machine, the contracts, the laws. Conditions: none but those that each names. -/
import Derived.Test.YteblfgeonobmjaaDoorJe
set_option linter.unusedSimpArgs false
set_option linter.unusedVariables false
namespace Go.PM
open Go.Proofs
attribute [local irreducible] W PCalls pcall pcallI WL
theorem valid_lens {a : List Ltr} (h : validF a = true) : ∀ x ∈ a, 1 ≤ x.text.length ∧ x.text.length ≤ 4 := by
  intro x hx
  obtain ⟨j, hj, rfl⟩ := List.mem_iff_getElem.1 hx
  have := valid_text h hj
  exact ⟨List.length_pos_iff.2 this.1, this.2⟩
theorem fit_noA {f : Font} {s : List UInt8} {bold : Bool} {most : Int} : fitF [] f s bold most = [] := by
  unfold fitF
  rw [show validF [] = false from rfl]
  rfl
set_option maxRecDepth 100000
set_option maxHeartbeats 8000000
theorem law4 (G : Globs) (t : TypeId) (hG : G 1 = .gtab t powC) (l m k : List Int) (how most : Int) (hl : okI l) (hm : okI m) (hk : okI k) (hh : i64 how) (hmo : i64 most) :
    PCalls Tryd.prog G 4 [wP l, wP m, wP k, pint .i64 how, pint .i64 most] [] (fun res H => res = pbool true ∧ H = []) := by
  have hv := letters_valid l
  have hA := valid_HA hv
  have hn := lettersF_len l
  have hx := valid_lens hv
  have c1 := letters_c G l hl
  have c2 := font_f G (lettersF l) m (by omega) hx hm
  have c3 := rstring_c G (lettersF l) k (by omega) hx hk
  have hsl := strF_len hx k
  generalize lettersF l = a at *
  have hfo := fontF_ok a m
  have hfH := ok_HF hfo
  generalize fontF a m = f at *
  generalize strF a k = s at *
  have c4 := spo_f G f how hfo hh
  have hsb := arF_bound how (most := 12) (by omega)
  have hsH := spo_HF hfo (arF how 12) hsb
  generalize spoF f (arF how 12) = g at *
  have c5 := around_c G most 200 (by omega) hmo (by omega)
  have har := arF_bound most (most := 200) (by omega)
  generalize arF most 200 = ar at *
  have c9 := lives_c G t hG
  have c8 : PCalls Tryd.prog G 25 [.val (.slice none 0 0), foP f, .val (.string ⟨#[49]⟩), .val (.bool false), .val (.int .i64 5000)] [] _ := PCalls.nil1 (fit_c G [] f [49] false 5000 ⟨by decide, by simp⟩ hfH (by decide) (by decide))
  rw [fit_noA] at c8
  (refine PCalls_f Tryd.func4 rfl Tryd.ntmps4 Tryd.results4 (by simp) fun fin hfin => ?_; have hnm : True := trivial; simp (maxSteps := 2000000) (disch := omega) only [evb, evd, eve, constPV, seqK, blockK, scopeK, pbound, pelems, PV.mem?, PV.one, PV.cells, peqs, peq1, pkeys, pkeyt, List.set, Value.cells, ↓popG_eq, ↓pop.eq_1, ↓List.getElem?_map, ↓List.getElem?_cons_zero, ↓List.getElem?_cons_succ, Value.oneCell', Nat.reduceAdd, Nat.reduceMul, Nat.reduceSub, Nat.reduceLeDiff, Nat.reduceEqDiff, ↓reduceIte, ne_eq, reduceCtorEq, forall_const, exists_and_left, exists_eq_left', eq_self, Nat.reduceLT, Int.reduceLT, Int.reduceLE, Int.reduceToNat, Int.reduceAdd, Int.reduceSub, Int.reduceNeg, hnm, Tryd.tf0, Tryd.tf2, Tryd.tf3, Tryd.tf4, Tryd.tf5, Tryd.tf9, Tryd.tf22, Tryd.tf23, Tryd.tf27, Tryd.tf30, Tryd.tf60, Tryd.call10, Tryd.call11, Tryd.call12, Tryd.call14, Tryd.call23, Tryd.call24, Tryd.call25, Tryd.call26])
  repeat' (first
    | (with_reducible apply W_seq_k; intro nx hnx)
    | (with_reducible first | apply W_block | apply W_scope)
    | (with_reducible refine W_prune 261151 ?_; simp only [prb, Nat.reducePow, Nat.reduceDiv, Nat.reduceMod, Nat.reduceBEq]; first | (with_reducible apply W_region_l) | with_reducible refine W_region_draw (id := 3) 2 (.op 0 true (.op 1 true (.op 2 true (.op 3 true (.op 4 false (.op 5 true (.done))))))) (by kernel_rfl) ?_ | with_reducible refine W_region_draw (id := 12) 3 (.op 0 true (.op 1 true (.op 2 true (.op 3 true (.op 4 true (.op 5 true (.op 6 true (.op 7 true (.op 8 true (.op 9 true (.op 10 true (.op 11 true (.op 12 true (.op 14 true (.op 15 true (.op 16 true (.op 17 true (.op 18 true (.op 19 true (.op 20 true (.op 21 true (.op 22 true (.op 23 true (.op 24 true (.op 25 true (.op 26 true (.op 13 true (.op 27 false (.op 28 true (.done)))))))))))))))))))))))))))))) (by kernel_rfl) ?_)
    | (with_reducible refine WL_born (by simp) rfl (by simp) ?_; simp only [elemsOf, nl, List.map_cons, List.map_nil, Nat.reduceEqDiff, ↓reduceIte, List.take_succ_cons, List.take_zero, List.range_succ, List.range_zero, List.nil_append, List.cons_append, List.map_append, List.drop_succ_cons, List.drop_zero, Nat.reduceMul, Nat.zero_mul, Nat.one_mul, Nat.reduceAdd])
    | (with_reducible refine WL_bornH (by simp) (by simp) ?_ ?_ ?_; (· simp [frz, frz1, hnm]); (· simp [frz1, hnm, PV.one, Value.oneCell']); simp only [elemsOf, nl, List.map_cons, List.map_nil, Nat.reduceEqDiff, ↓reduceIte, List.take_succ_cons, List.take_zero, List.range_succ, List.range_zero, List.nil_append, List.cons_append, List.map_append, List.drop_succ_cons, List.drop_zero, Nat.reduceMul, Nat.zero_mul, Nat.one_mul, Nat.reduceAdd])
    | ((first | (with_reducible apply WL_op; intro nx hnx) | with_reducible refine Ev_out ?_ | (with_reducible apply popsD_op; intro nx hnx) | (with_reducible refine popsD_alt ?_ ?_; intro nx hnx) | (with_reducible refine pfresh_k hnm fun nm hnm => ?_; (try simp only [fmb] at hnm)) | (with_reducible refine pborn_im ?_; simp only [elemsOf, nl, List.map_cons, List.map_nil, Nat.reduceEqDiff, ↓reduceIte, List.take_succ_cons, List.take_zero, List.range_succ, List.range_zero, List.nil_append, List.cons_append, List.map_append, List.drop_succ_cons, List.drop_zero, Nat.reduceMul, Nat.zero_mul, Nat.one_mul, Nat.reduceAdd]) | (with_reducible refine pmaybe_k ?_; intro bn hbn)); try (simp (maxSteps := 2000000) (disch := omega) only [evb, evd, eve, constPV, seqK, blockK, scopeK, pbound, pelems, PV.mem?, PV.one, PV.cells, peqs, peq1, pkeys, pkeyt, List.set, Value.cells, ↓popG_eq, ↓pop.eq_1, ↓List.getElem?_map, ↓List.getElem?_cons_zero, ↓List.getElem?_cons_succ, Value.oneCell', Nat.reduceAdd, Nat.reduceMul, Nat.reduceSub, Nat.reduceLeDiff, Nat.reduceEqDiff, ↓reduceIte, ne_eq, reduceCtorEq, forall_const, exists_and_left, exists_eq_left', eq_self, Nat.reduceLT, Int.reduceLT, Int.reduceLE, Int.reduceToNat, Int.reduceAdd, Int.reduceSub, Int.reduceNeg, hnm, Tryd.tf0, Tryd.tf2, Tryd.tf3, Tryd.tf4, Tryd.tf5, Tryd.tf9, Tryd.tf22, Tryd.tf23, Tryd.tf27, Tryd.tf30, Tryd.tf60, Tryd.call10, Tryd.call11, Tryd.call12, Tryd.call14, Tryd.call23, Tryd.call24, Tryd.call25, Tryd.call26]); repeat (refine And.intro (by omega) ?_))
    | ((with_reducible first | apply WL_nil | apply W_label | apply W_skip | apply W_exit | apply W_ret | apply popsD_done); try simp only [seqK, blockK, scopeK, ↓reduceIte, Nat.reduceEqDiff])
    | with_reducible exact popsD_stop
    | (with_reducible apply pguard_intro <;> (intro hc; (try simp only [hcb, reduceCtorEq, forall_const, ne_eq] at hc); first | (exfalso; omega) | (exfalso; exact hc trivial) | refine Ev_in ?_))
    | (with_reducible apply W_cond_k; intro _ _ ea eb; (simp only [condK, cob, opnd, constPV, Nat.reduceEqDiff, Nat.reduceLT, ↓reduceIte, hcb, reduceCtorEq, forall_const, ne_eq]); subst ea eb; first | (refine ⟨fun hc => ?_, fun hc => ?_⟩ <;> first | (exfalso; omega) | (exfalso; exact hc trivial) | skip) | skip)
    | (with_reducible apply hnx; clear hnx nx)
    | (with_reducible refine And.intro (by omega) ?_)
    | (with_reducible refine And.intro ?_ ?_)
    | (with_reducible refine pcall_k (c1) ?_; rintro _ _ ⟨rfl, rfl⟩ -; refine Ev_in ?_)
    | (with_reducible refine pcall_k (c2) ?_; rintro _ _ ⟨rfl, rfl⟩ -; refine Ev_in ?_)
    | (with_reducible refine pcall_k (c3) ?_; rintro _ _ ⟨rfl, rfl⟩ -; refine Ev_in ?_)
    | (with_reducible refine pcall_k (c4) ?_; rintro _ _ ⟨rfl, rfl⟩ -; refine Ev_in ?_)
    | (with_reducible refine pcall_k (c5) ?_; rintro _ _ ⟨rfl, rfl⟩ -; refine Ev_in ?_)
    | (clear hnx nx; with_reducible apply hnx; clear hnx nx)
    | (clear hnx nx; clear hnx nx; with_reducible apply hnx; clear hnx nx))
  generalize nm = mn at *
  obtain ⟨F, hF⟩ : ∃ F, F = [f, g] := ⟨_, rfl⟩
  have hFl : F.length = 2 := by rw [hF]; rfl
  have hFH : ∀ x ∈ F, HF x := by
    rw [hF]
    intro x hx
    simp only [List.mem_cons, List.not_mem_nil, or_false] at hx
    rcases hx with rfl | rfl <;> assumption
  obtain ⟨L, hL⟩ : ∃ L, L = [most, ar, 0, -1, 1099511627776] := ⟨_, rfl⟩
  have hLl : L.length = 5 := by rw [hL]; rfl
  have hLI : ∀ x ∈ L, i64 x := by
    rw [hL]
    intro x hx
    simp only [List.mem_cons, List.not_mem_nil, or_false] at hx
    rcases hx with rfl | rfl | rfl | rfl | rfl
    · exact hmo
    · exact ⟨by omega, by omega⟩
    · exact ⟨by omega, by omega⟩
    · exact ⟨by omega, by omega⟩
    · exact ⟨by omega, by omega⟩
  have eL : [pint .i64 most, pint .i64 ar, PV.val (.int .i64 0), PV.val (.int .i64 (-1)), PV.val (.int .i64 1099511627776)] = L.map (pint .i64) := by rw [hL]; rfl
  have eF : [foP f, foP g] = F.map foP := by rw [hF]; rfl
  rw [eL, eF]
  clear eL eF hL hF
  refine W_loop_k (fun z τ => ∃ i : Nat, i ≤ 2 ∧ z = 2 - i ∧ τ = ⟨fr 78 [(16, pn i), (15, wP L), (14, pstr s), (13, .list 5 (F.map foP)), (12, .ptr mn 0), (11, ltsP a)], [(mn, foC f)]⟩) 2
    ⟨fr 78 [(16, pn 0), (15, wP L), (14, pstr s), (13, .list 5 (F.map foP)), (12, .ptr mn 0), (11, ltsP a)], [(mn, foC f)]⟩ (by exact Wk_fr (by simp only [wkb, Nat.reduceEqDiff, Nat.reduceLT, ↓reduceIte, pn]) ⟨by simp, by simp [names]⟩) ⟨0, by omega, by omega, rfl⟩ ?_
  rintro z τ ⟨i, hi, rfl, rfl⟩ lp hlp
  by_cases hil : i < 2
  · repeat' (first
    | (with_reducible apply W_seq_k; intro nx hnx)
    | (with_reducible first | apply W_block | apply W_scope)
    | (with_reducible refine W_prune 261151 ?_; simp only [prb, Nat.reducePow, Nat.reduceDiv, Nat.reduceMod, Nat.reduceBEq]; first | (with_reducible apply W_region_l) | with_reducible refine W_region_draw (id := 3) 2 (.op 0 true (.op 1 true (.op 2 true (.op 3 true (.op 4 false (.op 5 true (.done))))))) (by kernel_rfl) ?_ | with_reducible refine W_region_draw (id := 12) 3 (.op 0 true (.op 1 true (.op 2 true (.op 3 true (.op 4 true (.op 5 true (.op 6 true (.op 7 true (.op 8 true (.op 9 true (.op 10 true (.op 11 true (.op 12 true (.op 14 true (.op 15 true (.op 16 true (.op 17 true (.op 18 true (.op 19 true (.op 20 true (.op 21 true (.op 22 true (.op 23 true (.op 24 true (.op 25 true (.op 26 true (.op 13 true (.op 27 false (.op 28 true (.done)))))))))))))))))))))))))))))) (by kernel_rfl) ?_)
    | ((first | (with_reducible apply WL_op; intro nx hnx) | with_reducible refine Ev_out ?_ | (with_reducible apply popsD_op; intro nx hnx) | (with_reducible refine popsD_alt ?_ ?_; intro nx hnx) | (with_reducible refine pfresh_k hnm fun nm hnm => ?_; (try simp only [fmb] at hnm)) | (with_reducible refine pborn_mu hnm fun nm hnm => ?_; (try simp only [fmb] at hnm)) | (with_reducible refine pmaybe_k ?_; intro bn hbn)); try (simp (maxSteps := 2000000) (disch := omega) only [evb, evd, eve, constPV, seqK, blockK, scopeK, pbound, pelems, PV.mem?, PV.one, PV.cells, peqs, peq1, pkeys, pkeyt, List.set, Value.cells, ↓popG_eq, ↓pop.eq_1, ↓List.getElem?_map, ↓List.getElem?_cons_zero, ↓List.getElem?_cons_succ, Value.oneCell', Nat.reduceAdd, Nat.reduceMul, Nat.reduceSub, Nat.reduceLeDiff, Nat.reduceEqDiff, ↓reduceIte, ne_eq, reduceCtorEq, forall_const, exists_and_left, exists_eq_left', eq_self, Nat.reduceLT, Int.reduceLT, Int.reduceLE, Int.reduceToNat, Int.reduceAdd, Int.reduceSub, Int.reduceNeg, hnm, Tryd.tf0, Tryd.tf2, Tryd.tf3, Tryd.tf4, Tryd.tf5, Tryd.tf9, Tryd.tf22, Tryd.tf23, Tryd.tf27, Tryd.tf30, Tryd.tf60, Tryd.call10, Tryd.call11, Tryd.call12, Tryd.call14, Tryd.call23, Tryd.call24, Tryd.call25, Tryd.call26]); repeat (refine And.intro (by omega) ?_))
    | ((with_reducible first | apply WL_nil | apply W_label | apply W_skip | apply W_exit | apply W_ret | apply popsD_done); try simp only [seqK, blockK, scopeK, ↓reduceIte, Nat.reduceEqDiff])
    | with_reducible exact popsD_stop
    | (with_reducible apply pguard_intro <;> (intro hc; (try simp only [hcb, reduceCtorEq, forall_const, ne_eq] at hc); first | (exfalso; omega) | (exfalso; exact hc trivial) | refine Ev_in ?_))
    | (with_reducible apply W_cond_k; intro _ _ ea eb; (simp only [condK, cob, opnd, constPV, Nat.reduceEqDiff, Nat.reduceLT, ↓reduceIte, hcb, reduceCtorEq, forall_const, ne_eq]); subst ea eb; first | (refine ⟨fun hc => ?_, fun hc => ?_⟩ <;> first | (exfalso; omega) | (exfalso; exact hc trivial) | skip) | skip)
    | (with_reducible apply hnx; clear hnx nx)
    | (with_reducible refine And.intro (by omega) ?_)
    | (with_reducible refine And.intro ?_ ?_)
    | (clear hnx nx; with_reducible apply hnx; clear hnx nx)
    | (clear hnx nx; clear hnx nx; with_reducible apply hnx; clear hnx nx))
    all_goals first | exact absurd trivial hc | contradiction | exact fun h => False.elim h | (exfalso; omega) | (exfalso; have hc := of_decide_eq_false hc; omega) | (exfalso; simp only [Bool.not_false, Bool.not_true, decide_eq_true_eq, decide_eq_false_iff_not] at *; omega) | skip
    refine W_loop_k (fun z τ => ∃ j : Nat, j ≤ 5 ∧ z = 5 - j ∧ τ = ⟨fr 78 [(17, pn j), (16, pn i), (15, wP L), (14, pstr s), (13, .list 5 (F.map foP)), (12, .ptr mn 0), (11, ltsP a)], [(mn, foC f)]⟩) 5
      ⟨fr 78 [(17, pn 0), (16, pn i), (15, wP L), (14, pstr s), (13, .list 5 (F.map foP)), (12, .ptr mn 0), (11, ltsP a)], [(mn, foC f)]⟩ (by exact Wk_fr (by simp only [wkb, Nat.reduceEqDiff, Nat.reduceLT, ↓reduceIte, pn]) ⟨by simp, by simp [names]⟩) ⟨0, by omega, by omega, rfl⟩ ?_
    rintro z τ ⟨j, hj, rfl, rfl⟩ lp2 hlp2
    by_cases hjl : j < 5
    · have hgi : F[i]? = some F[i] := List.getElem?_eq_getElem (by omega)
      have hgj : L[j]? = some L[j] := List.getElem?_eq_getElem (by omega)
      have d1 := fun b => fit_c G a F[i] s b L[j] hA (hFH _ (List.getElem_mem _)) (by omega) (hLI _ (List.getElem_mem _))
      have d2 := fun b => rfit_c G a F[i] s b L[j] hA (hFH _ (List.getElem_mem _)) (by omega) (hLI _ (List.getElem_mem _))
      generalize (fun b => fitF a F[i] s b L[j]) = ft at *
      repeat' (first
    | (with_reducible apply W_seq_k; intro nx hnx)
    | (with_reducible first | apply W_block | apply W_scope)
    | (with_reducible refine W_prune 261151 ?_; simp only [prb, Nat.reducePow, Nat.reduceDiv, Nat.reduceMod, Nat.reduceBEq]; first | (with_reducible apply W_region_l) | with_reducible refine W_region_draw (id := 3) 2 (.op 0 true (.op 1 true (.op 2 true (.op 3 true (.op 4 false (.op 5 true (.done))))))) (by kernel_rfl) ?_ | with_reducible refine W_region_draw (id := 12) 3 (.op 0 true (.op 1 true (.op 2 true (.op 3 true (.op 4 true (.op 5 true (.op 6 true (.op 7 true (.op 8 true (.op 9 true (.op 10 true (.op 11 true (.op 12 true (.op 14 true (.op 15 true (.op 16 true (.op 17 true (.op 18 true (.op 19 true (.op 20 true (.op 21 true (.op 22 true (.op 23 true (.op 24 true (.op 25 true (.op 26 true (.op 13 true (.op 27 false (.op 28 true (.done)))))))))))))))))))))))))))))) (by kernel_rfl) ?_)
    | ((first | (with_reducible apply WL_op; intro nx hnx) | with_reducible refine Ev_out ?_ | (with_reducible apply popsD_op; intro nx hnx) | (with_reducible refine popsD_alt ?_ ?_; intro nx hnx) | (with_reducible refine pfresh_k hnm fun nm hnm => ?_; (try simp only [fmb] at hnm)) | (with_reducible refine pborn_mu hnm fun nm hnm => ?_; (try simp only [fmb] at hnm)) | (with_reducible refine pmaybe_k ?_; intro bn hbn)); try (simp (maxSteps := 2000000) (disch := omega) only [evb, evd, eve, constPV, seqK, blockK, scopeK, pbound, pelems, PV.mem?, PV.one, PV.cells, peqs, peq1, pkeys, pkeyt, List.set, Value.cells, ↓popG_eq, ↓pop.eq_1, ↓List.getElem?_map, ↓List.getElem?_cons_zero, ↓List.getElem?_cons_succ, Value.oneCell', Nat.reduceAdd, Nat.reduceMul, Nat.reduceSub, Nat.reduceLeDiff, Nat.reduceEqDiff, ↓reduceIte, ne_eq, reduceCtorEq, forall_const, exists_and_left, exists_eq_left', eq_self, Nat.reduceLT, Int.reduceLT, Int.reduceLE, Int.reduceToNat, Int.reduceAdd, Int.reduceSub, Int.reduceNeg, hnm, Tryd.tf0, Tryd.tf2, Tryd.tf3, Tryd.tf4, Tryd.tf5, Tryd.tf9, Tryd.tf22, Tryd.tf23, Tryd.tf27, Tryd.tf30, Tryd.tf60, Tryd.call10, Tryd.call11, Tryd.call12, Tryd.call14, Tryd.call23, Tryd.call24, Tryd.call25, Tryd.call26, hgi, hgj, hFl, hLl]); repeat (refine And.intro (by omega) ?_))
    | ((with_reducible first | apply WL_nil | apply W_label | apply W_skip | apply W_exit | apply W_ret | apply popsD_done); try simp only [seqK, blockK, scopeK, ↓reduceIte, Nat.reduceEqDiff])
    | with_reducible exact popsD_stop
    | (with_reducible apply pguard_intro <;> (intro hc; (try simp only [hcb, reduceCtorEq, forall_const, ne_eq] at hc); first | (exfalso; omega) | (exfalso; exact hc trivial) | refine Ev_in ?_))
    | (with_reducible apply W_cond_k; intro _ _ ea eb; (simp only [condK, cob, opnd, constPV, Nat.reduceEqDiff, Nat.reduceLT, ↓reduceIte, hcb, reduceCtorEq, forall_const, ne_eq]); subst ea eb; first | (refine ⟨fun hc => ?_, fun hc => ?_⟩ <;> first | (exfalso; omega) | (exfalso; exact hc trivial) | skip) | skip)
    | (with_reducible apply hnx; clear hnx nx)
    | (with_reducible refine And.intro (by omega) ?_)
    | (with_reducible refine And.intro ?_ ?_)
    | (with_reducible refine pcall_k (d1 _) ?_; rintro _ _ ⟨rfl, rfl⟩ -; refine Ev_in ?_)
    | (with_reducible refine pcall_k (d2 _) ?_; rintro _ _ ⟨rfl, rfl⟩ -; refine Ev_in ?_)
    | (clear hnx nx; with_reducible apply hnx; clear hnx nx)
    | (clear hnx nx; clear hnx nx; with_reducible apply hnx; clear hnx nx))
      all_goals first | exact absurd trivial hc | contradiction | exact fun h => False.elim h | (exfalso; omega) | (exfalso; have hc := of_decide_eq_false hc; omega) | (exfalso; simp only [Bool.not_false, Bool.not_true, decide_eq_true_eq, decide_eq_false_iff_not] at *; omega) | skip
      refine hlp2 _ (5 - (j + 1)) _ (by omega) ?_ ⟨j + 1, by omega, rfl, rfl⟩
      exact Wk_fr (by simp only [wkb, Nat.reduceEqDiff, Nat.reduceLT, ↓reduceIte, pn]) ⟨by simp, by simp [names]⟩
    · have hj2 : j = 5 := by omega
      subst hj2
      repeat' (first
    | (with_reducible apply W_seq_k; intro nx hnx)
    | (with_reducible first | apply W_block | apply W_scope)
    | (with_reducible refine W_prune 261151 ?_; simp only [prb, Nat.reducePow, Nat.reduceDiv, Nat.reduceMod, Nat.reduceBEq]; first | (with_reducible apply W_region_l) | with_reducible refine W_region_draw (id := 3) 2 (.op 0 true (.op 1 true (.op 2 true (.op 3 true (.op 4 false (.op 5 true (.done))))))) (by kernel_rfl) ?_ | with_reducible refine W_region_draw (id := 12) 3 (.op 0 true (.op 1 true (.op 2 true (.op 3 true (.op 4 true (.op 5 true (.op 6 true (.op 7 true (.op 8 true (.op 9 true (.op 10 true (.op 11 true (.op 12 true (.op 14 true (.op 15 true (.op 16 true (.op 17 true (.op 18 true (.op 19 true (.op 20 true (.op 21 true (.op 22 true (.op 23 true (.op 24 true (.op 25 true (.op 26 true (.op 13 true (.op 27 false (.op 28 true (.done)))))))))))))))))))))))))))))) (by kernel_rfl) ?_)
    | ((first | (with_reducible apply WL_op; intro nx hnx) | with_reducible refine Ev_out ?_ | (with_reducible apply popsD_op; intro nx hnx) | (with_reducible refine popsD_alt ?_ ?_; intro nx hnx) | (with_reducible refine pfresh_k hnm fun nm hnm => ?_; (try simp only [fmb] at hnm)) | (with_reducible refine pborn_mu hnm fun nm hnm => ?_; (try simp only [fmb] at hnm)) | (with_reducible refine pmaybe_k ?_; intro bn hbn)); try (simp (maxSteps := 2000000) (disch := omega) only [evb, evd, eve, constPV, seqK, blockK, scopeK, pbound, pelems, PV.mem?, PV.one, PV.cells, peqs, peq1, pkeys, pkeyt, List.set, Value.cells, ↓popG_eq, ↓pop.eq_1, ↓List.getElem?_map, ↓List.getElem?_cons_zero, ↓List.getElem?_cons_succ, Value.oneCell', Nat.reduceAdd, Nat.reduceMul, Nat.reduceSub, Nat.reduceLeDiff, Nat.reduceEqDiff, ↓reduceIte, ne_eq, reduceCtorEq, forall_const, exists_and_left, exists_eq_left', eq_self, Nat.reduceLT, Int.reduceLT, Int.reduceLE, Int.reduceToNat, Int.reduceAdd, Int.reduceSub, Int.reduceNeg, hnm, Tryd.tf0, Tryd.tf2, Tryd.tf3, Tryd.tf4, Tryd.tf5, Tryd.tf9, Tryd.tf22, Tryd.tf23, Tryd.tf27, Tryd.tf30, Tryd.tf60, Tryd.call10, Tryd.call11, Tryd.call12, Tryd.call14, Tryd.call23, Tryd.call24, Tryd.call25, Tryd.call26]); repeat (refine And.intro (by omega) ?_))
    | ((with_reducible first | apply WL_nil | apply W_label | apply W_skip | apply W_exit | apply W_ret | apply popsD_done); try simp only [seqK, blockK, scopeK, ↓reduceIte, Nat.reduceEqDiff])
    | with_reducible exact popsD_stop
    | (with_reducible apply pguard_intro <;> (intro hc; (try simp only [hcb, reduceCtorEq, forall_const, ne_eq] at hc); first | (exfalso; omega) | (exfalso; exact hc trivial) | refine Ev_in ?_))
    | (with_reducible apply W_cond_k; intro _ _ ea eb; (simp only [condK, cob, opnd, constPV, Nat.reduceEqDiff, Nat.reduceLT, ↓reduceIte, hcb, reduceCtorEq, forall_const, ne_eq]); subst ea eb; first | (refine ⟨fun hc => ?_, fun hc => ?_⟩ <;> first | (exfalso; omega) | (exfalso; exact hc trivial) | skip) | skip)
    | (with_reducible apply hnx; clear hnx nx)
    | (with_reducible refine And.intro (by omega) ?_)
    | (with_reducible refine And.intro ?_ ?_)
    | (clear hnx nx; with_reducible apply hnx; clear hnx nx)
    | (clear hnx nx; clear hnx nx; with_reducible apply hnx; clear hnx nx))
      all_goals first | exact absurd trivial hc | contradiction | exact fun h => False.elim h | (exfalso; omega) | (exfalso; have hc := of_decide_eq_false hc; omega) | (exfalso; simp only [Bool.not_false, Bool.not_true, decide_eq_true_eq, decide_eq_false_iff_not] at *; omega) | skip
      refine hlp _ (2 - (i + 1)) _ (by omega) ?_ ⟨i + 1, by omega, rfl, rfl⟩
      exact Wk_fr (by simp only [wkb, Nat.reduceEqDiff, Nat.reduceLT, ↓reduceIte, pn]) ⟨by simp, by simp [names]⟩
  · have hi2 : i = 2 := by omega
    subst hi2
    repeat' (first
    | (with_reducible apply W_seq_k; intro nx hnx)
    | (with_reducible first | apply W_block | apply W_scope)
    | (with_reducible refine W_prune 261151 ?_; simp only [prb, Nat.reducePow, Nat.reduceDiv, Nat.reduceMod, Nat.reduceBEq]; first | (with_reducible apply W_region_l) | with_reducible refine W_region_draw (id := 3) 2 (.op 0 true (.op 1 true (.op 2 true (.op 3 true (.op 4 false (.op 5 true (.done))))))) (by kernel_rfl) ?_ | with_reducible refine W_region_draw (id := 12) 3 (.op 0 true (.op 1 true (.op 2 true (.op 3 true (.op 4 true (.op 5 true (.op 6 true (.op 7 true (.op 8 true (.op 9 true (.op 10 true (.op 11 true (.op 12 true (.op 14 true (.op 15 true (.op 16 true (.op 17 true (.op 18 true (.op 19 true (.op 20 true (.op 21 true (.op 22 true (.op 23 true (.op 24 true (.op 25 true (.op 26 true (.op 13 true (.op 27 false (.op 28 true (.done)))))))))))))))))))))))))))))) (by kernel_rfl) ?_)
    | ((first | (with_reducible apply WL_op; intro nx hnx) | with_reducible refine Ev_out ?_ | (with_reducible apply popsD_op; intro nx hnx) | (with_reducible refine popsD_alt ?_ ?_; intro nx hnx) | (with_reducible refine pfresh_k hnm fun nm hnm => ?_; (try simp only [fmb] at hnm)) | (with_reducible refine pborn_mu hnm fun nm hnm => ?_; (try simp only [fmb] at hnm)) | (with_reducible refine pmaybe_k ?_; intro bn hbn)); try (simp (maxSteps := 2000000) (disch := omega) only [evb, evd, eve, constPV, seqK, blockK, scopeK, pbound, pelems, PV.mem?, PV.one, PV.cells, peqs, peq1, pkeys, pkeyt, List.set, Value.cells, ↓popG_eq, ↓pop.eq_1, ↓List.getElem?_map, ↓List.getElem?_cons_zero, ↓List.getElem?_cons_succ, Value.oneCell', Nat.reduceAdd, Nat.reduceMul, Nat.reduceSub, Nat.reduceLeDiff, Nat.reduceEqDiff, ↓reduceIte, ne_eq, reduceCtorEq, forall_const, exists_and_left, exists_eq_left', eq_self, Nat.reduceLT, Int.reduceLT, Int.reduceLE, Int.reduceToNat, Int.reduceAdd, Int.reduceSub, Int.reduceNeg, hnm, Tryd.tf0, Tryd.tf2, Tryd.tf3, Tryd.tf4, Tryd.tf5, Tryd.tf9, Tryd.tf22, Tryd.tf23, Tryd.tf27, Tryd.tf30, Tryd.tf60, Tryd.call10, Tryd.call11, Tryd.call12, Tryd.call14, Tryd.call23, Tryd.call24, Tryd.call25, Tryd.call26]); repeat (refine And.intro (by omega) ?_))
    | ((with_reducible first | apply WL_nil | apply W_label | apply W_skip | apply W_exit | apply W_ret | apply popsD_done); try simp only [seqK, blockK, scopeK, ↓reduceIte, Nat.reduceEqDiff])
    | with_reducible exact popsD_stop
    | (with_reducible apply pguard_intro <;> (intro hc; (try simp only [hcb, reduceCtorEq, forall_const, ne_eq] at hc); first | (exfalso; omega) | (exfalso; exact hc trivial) | refine Ev_in ?_))
    | (with_reducible apply W_cond_k; intro _ _ ea eb; (simp only [condK, cob, opnd, constPV, Nat.reduceEqDiff, Nat.reduceLT, ↓reduceIte, hcb, reduceCtorEq, forall_const, ne_eq]); subst ea eb; first | (refine ⟨fun hc => ?_, fun hc => ?_⟩ <;> first | (exfalso; omega) | (exfalso; exact hc trivial) | skip) | skip)
    | (with_reducible apply hnx; clear hnx nx)
    | (with_reducible refine And.intro (by omega) ?_)
    | (with_reducible refine And.intro ?_ ?_)
    | (with_reducible refine pcall_k (c8) ?_; rintro _ _ ⟨rfl, rfl⟩ -; refine Ev_in ?_)
    | (with_reducible refine pcall_k (c9) ?_; rintro _ _ ⟨rfl, rfl⟩ -; refine Ev_in ?_)
    | (clear hnx nx; with_reducible apply hnx; clear hnx nx)
    | (clear hnx nx; clear hnx nx; with_reducible apply hnx; clear hnx nx))
    all_goals first | exact absurd trivial hc | contradiction | exact fun h => False.elim h | (exfalso; omega) | (exfalso; have hc := of_decide_eq_false hc; omega) | (exfalso; simp only [Bool.not_false, Bool.not_true, decide_eq_true_eq, decide_eq_false_iff_not] at *; omega) | skip
    (refine hfin _ _ (Fin_ret1 rfl (Sub_nil _) ?_); simp only [List.getD_cons_zero, List.getD_cons_succ, fr_getD_cons, fr_getD_nil, Nat.reduceEqDiff, Nat.reduceLT, ↓reduceIte]; first | trivial | exact ⟨rfl, by trivial⟩ | (simp; done) | (simp; omega))
end Go.PM
