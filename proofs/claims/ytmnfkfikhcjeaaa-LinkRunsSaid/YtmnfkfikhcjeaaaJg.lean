/- Joined texts (Ny Nz Oa Ob Oc): the machine, the contracts, the laws. Conditions: none but those that each names. -/
import Derived.Test.YtmnfkfikhcjeaaaJf
set_option linter.unusedSimpArgs false
set_option linter.unusedVariables false
namespace Go.PM
open Go.Proofs
attribute [local irreducible] W PCalls pcall pcallI WL
set_option maxRecDepth 100000 in
set_option maxHeartbeats 8000000 in
theorem runs_in3 (G : Globs) (key : UInt64) (l : List Int) (a b c d nS nT : Int) (sent : List (List UInt8)) (to : List Nat) (i : Nat) (hi : i < 60) (j : Nat) (hj : j < sent.length) (n : Nat) (hn : n < 1073741824) (y : List UInt8) (hy : 12 ≤ y.length ∧ y.length ≤ 200000) (ra rb : RE) (H : Heap) (hI : RunI i key ra rb sent to) (hH : RunH a b c d ra rb H)
    (K : Exit → PState → Prop) (hK : ∀ σ' ra' rb' H', RunI (i + 1) key ra' rb' sent to → RunH a b c d ra' rb' H' → At σ' (runT key l a b c d nS nT sent to i H') → K .normal σ') :
    W Try.prog G [] (nav (Try.f3.body.getD .skip) [1, 1, 1, 1, 1, 1, 0, 1, 0, 0, 1, 0, 0, 1, 1, 0, 1, 0, 1, 1, 1, 1, 1, 1, 1, 1, 1]) ⟨fr 258 ((19, pl y) :: (18, pn j) :: (12, pn n) :: runL key l a b c d nS nT sent.length to.length i), runO nS nT sent to H⟩ K := by
  have hnm : True := trivial
  have nxt := fun (x : List UInt8) (hx : x.length ≤ 4294900000) => runs_in2 G key l a b c d nS nT sent to i hi j hj x hx ra rb H hI hH K hK
  have r19 : Int.tmod (n : Int) 19 = ((n % 19 : Nat) : Int) := (Int.ofNat_tmod n 19).symm
  have r12 : Int.tmod (n : Int) 12 = ((n % 12 : Nat) : Int) := (Int.ofNat_tmod n 12).symm
  have hlt : n % 12 < 12 := Nat.mod_lt _ (by omega)
  have hyt : (y.take (n % 12)).length ≤ 4294900000 := by rw [List.length_take]; omega
  have hmt : List.take (n % 12) (y.map pbyte) = (y.take (n % 12)).map pbyte := List.map_take.symm
  obtain ⟨y12, hy12⟩ : ∃ z, z = y.take (n % 12) := ⟨_, rfl⟩
  rw [← hy12] at hmt hyt
  clear hy12
  simp only [Try.f3, nav, Option.getD_some] at nxt ⊢
  by_cases h19 : n % 19 = 0
  · repeat' (first
    | (with_reducible refine W_at ?_ (nxt y12 hyt))
    | (with_reducible apply W_seq_k; intro nx hnx)
    | (with_reducible first | apply W_block | apply W_scope)
    | (with_reducible refine W_prune 3064992543233415047619612257985451157307474195171508167 ?_; simp only [prb, Nat.reducePow, Nat.reduceDiv, Nat.reduceMod, Nat.reduceBEq]; first | (with_reducible apply W_region_l) | with_reducible refine W_region_draw (id := 29) 3 (.op 0 true (.op 1 true (.op 2 true (.op 3 true (.op 4 true (.op 6 true (.op 7 true (.op 10 true (.alt 5 false (.alt 8 true (.alt 9 true (.op 11 false (.op 12 true (.done))) .stop) .stop) (.alt 8 true (.alt 5 false (.alt 9 true (.op 11 false (.op 12 true (.done))) .stop) (.alt 9 true (.op 5 false (.op 11 false (.op 12 true (.done)))) .stop)) .stop)))))))))) (by kernel_rfl) ?_ | with_reducible refine W_region_draw (id := 15) 3 (.op 0 true (.op 1 true (.op 2 true (.op 3 true (.op 4 true (.op 5 true (.op 6 true (.op 7 true (.op 8 true (.op 9 false (.op 10 true (.done)))))))))))) (by kernel_rfl) ?_ | with_reducible refine W_region_draw (id := 45) 1 (.op 0 true (.op 1 true (.op 2 true (.op 3 true (.op 5 true (.op 6 true (.op 7 true (.op 8 true (.op 9 true (.op 10 true (.op 11 true (.op 12 true (.op 13 true (.op 14 true (.op 15 true (.op 16 true (.op 17 true (.op 18 true (.op 19 true (.op 20 true (.op 4 true (.op 21 true (.op 22 true (.op 23 true (.op 24 true (.op 25 true (.op 26 true (.op 28 true (.op 29 true (.op 30 true (.op 31 true (.op 32 true (.op 33 true (.op 34 true (.op 27 true (.op 35 true (.op 36 true (.done)))))))))))))))))))))))))))))))))))))) (by kernel_rfl) ?_)
    | ((first | (with_reducible apply WL_op; intro nx hnx) | with_reducible refine Ev_out ?_ | (with_reducible apply popsD_op; intro nx hnx) | (with_reducible refine popsD_alt ?_ ?_; intro nx hnx) | (with_reducible refine pfresh_k hnm fun nm hnm => ?_; (try simp only [fmb] at hnm)) | (with_reducible refine pborn_mu hnm fun nm hnm => ?_; (try simp only [fmb] at hnm)) | (with_reducible refine pmaybe_k ?_; intro bn hbn)); try (simp (maxSteps := 2000000) (disch := omega) only [evb, evd, pbuiltin, constPV, pnck, seqK, blockK, scopeK, pbin, pun, ppick, plen, piaddr, pindex, pfield, pslice, pbound, pconv, pelems, pextract, pmm, PV.mem?, PV.one, PV.cells, pageq, peqs, peq1, pmakes, pstore, pbytes, pmark, psrc, pkey, pnile, pcap, pgrow, List.set, Value.cells, ↓popG_eq, ↓pop.eq_1, ↓List.getElem?_map, ↓List.getElem?_cons_zero, ↓List.getElem?_cons_succ, Value.oneCell', Nat.reduceAdd, Nat.reduceMul, Nat.reduceSub, Nat.reduceLeDiff, Nat.reduceEqDiff, ↓reduceIte, ne_eq, reduceCtorEq, forall_const, exists_and_left, exists_eq_left', eq_self, Nat.reduceLT, Int.reduceLT, Int.reduceLE, Int.reduceToNat, Int.reduceAdd, Int.reduceSub, Int.reduceNeg, hnm, Try.tf0, Try.tf1, Try.tf2, Try.tf3, Try.tf4, Try.tf5, Try.tf7, Try.tf22, Try.tf23, Try.tf24, Try.tf26, Try.tf28, Try.tf31, Try.tf32, Try.tf33, Try.tf34, Try.tf35, Try.tf43, Try.tf44, Try.tf65, Try.teq79, Try.call9, Try.call10, Try.call11, Try.call12, Try.call13, Try.call14, Try.call15, Try.call16, Try.call17, Try.call18, Try.call19, Try.call20, Try.call21, Try.call22, Try.call23, r19, r12, hmt, Int.toNat_natCast]); repeat (refine And.intro (by omega) ?_))
    | ((with_reducible first | apply WL_nil | apply W_label | apply W_skip | apply W_exit | apply W_ret | apply popsD_done); try simp only [seqK, blockK, scopeK, ↓reduceIte, Nat.reduceEqDiff])
    | with_reducible exact popsD_stop
    | (with_reducible apply pguard_intro <;> (intro hc; (try simp only [hcb, reduceCtorEq, forall_const, ne_eq] at hc); first | (exfalso; omega) | (exfalso; exact hc trivial) | refine Ev_in ?_))
    | (with_reducible apply W_cond_k; intro _ _ ea eb; (simp only [condK, cob, opnd, constPV, Nat.reduceEqDiff, Nat.reduceLT, ↓reduceIte, hcb, reduceCtorEq, forall_const, ne_eq]); subst ea eb; first | (refine ⟨fun hc => ?_, fun hc => ?_⟩ <;> first | (exfalso; omega) | (exfalso; exact hc trivial) | skip) | skip)
    | (with_reducible apply hnx; clear hnx nx)
    | (with_reducible refine And.intro (by omega) ?_)
    | (with_reducible refine And.intro ?_ ?_)
    | (clear hnx nx; with_reducible apply hnx; clear hnx nx)
    | (clear hnx nx; clear hnx nx; with_reducible apply hnx; clear hnx nx)
    | (clear hnx nx; clear hnx nx; clear hnx nx; with_reducible apply hnx; clear hnx nx))
    all_goals first
      | exact absurd trivial hc
      | (exfalso
         omega)
      | skip
    refine At_fr (by simp only [wkb, Nat.reduceEqDiff, Nat.reduceLT, ↓reduceIte]) ?_
    exact Hs.refl _
  · repeat' (first
    | (with_reducible refine W_at ?_ (nxt y (by omega)))
    | (with_reducible apply W_seq_k; intro nx hnx)
    | (with_reducible first | apply W_block | apply W_scope)
    | (with_reducible refine W_prune 3064992543233415047619612257985451157307474195171508167 ?_; simp only [prb, Nat.reducePow, Nat.reduceDiv, Nat.reduceMod, Nat.reduceBEq]; first | (with_reducible apply W_region_l) | with_reducible refine W_region_draw (id := 29) 3 (.op 0 true (.op 1 true (.op 2 true (.op 3 true (.op 4 true (.op 6 true (.op 7 true (.op 10 true (.alt 5 false (.alt 8 true (.alt 9 true (.op 11 false (.op 12 true (.done))) .stop) .stop) (.alt 8 true (.alt 5 false (.alt 9 true (.op 11 false (.op 12 true (.done))) .stop) (.alt 9 true (.op 5 false (.op 11 false (.op 12 true (.done)))) .stop)) .stop)))))))))) (by kernel_rfl) ?_ | with_reducible refine W_region_draw (id := 15) 3 (.op 0 true (.op 1 true (.op 2 true (.op 3 true (.op 4 true (.op 5 true (.op 6 true (.op 7 true (.op 8 true (.op 9 false (.op 10 true (.done)))))))))))) (by kernel_rfl) ?_ | with_reducible refine W_region_draw (id := 45) 1 (.op 0 true (.op 1 true (.op 2 true (.op 3 true (.op 5 true (.op 6 true (.op 7 true (.op 8 true (.op 9 true (.op 10 true (.op 11 true (.op 12 true (.op 13 true (.op 14 true (.op 15 true (.op 16 true (.op 17 true (.op 18 true (.op 19 true (.op 20 true (.op 4 true (.op 21 true (.op 22 true (.op 23 true (.op 24 true (.op 25 true (.op 26 true (.op 28 true (.op 29 true (.op 30 true (.op 31 true (.op 32 true (.op 33 true (.op 34 true (.op 27 true (.op 35 true (.op 36 true (.done)))))))))))))))))))))))))))))))))))))) (by kernel_rfl) ?_)
    | ((first | (with_reducible apply WL_op; intro nx hnx) | with_reducible refine Ev_out ?_ | (with_reducible apply popsD_op; intro nx hnx) | (with_reducible refine popsD_alt ?_ ?_; intro nx hnx) | (with_reducible refine pfresh_k hnm fun nm hnm => ?_; (try simp only [fmb] at hnm)) | (with_reducible refine pborn_mu hnm fun nm hnm => ?_; (try simp only [fmb] at hnm)) | (with_reducible refine pmaybe_k ?_; intro bn hbn)); try (simp (maxSteps := 2000000) (disch := omega) only [evb, evd, pbuiltin, constPV, pnck, seqK, blockK, scopeK, pbin, pun, ppick, plen, piaddr, pindex, pfield, pslice, pbound, pconv, pelems, pextract, pmm, PV.mem?, PV.one, PV.cells, pageq, peqs, peq1, pmakes, pstore, pbytes, pmark, psrc, pkey, pnile, pcap, pgrow, List.set, Value.cells, ↓popG_eq, ↓pop.eq_1, ↓List.getElem?_map, ↓List.getElem?_cons_zero, ↓List.getElem?_cons_succ, Value.oneCell', Nat.reduceAdd, Nat.reduceMul, Nat.reduceSub, Nat.reduceLeDiff, Nat.reduceEqDiff, ↓reduceIte, ne_eq, reduceCtorEq, forall_const, exists_and_left, exists_eq_left', eq_self, Nat.reduceLT, Int.reduceLT, Int.reduceLE, Int.reduceToNat, Int.reduceAdd, Int.reduceSub, Int.reduceNeg, hnm, Try.tf0, Try.tf1, Try.tf2, Try.tf3, Try.tf4, Try.tf5, Try.tf7, Try.tf22, Try.tf23, Try.tf24, Try.tf26, Try.tf28, Try.tf31, Try.tf32, Try.tf33, Try.tf34, Try.tf35, Try.tf43, Try.tf44, Try.tf65, Try.teq79, Try.call9, Try.call10, Try.call11, Try.call12, Try.call13, Try.call14, Try.call15, Try.call16, Try.call17, Try.call18, Try.call19, Try.call20, Try.call21, Try.call22, Try.call23, r19, r12, hmt, Int.toNat_natCast]); repeat (refine And.intro (by omega) ?_))
    | ((with_reducible first | apply WL_nil | apply W_label | apply W_skip | apply W_exit | apply W_ret | apply popsD_done); try simp only [seqK, blockK, scopeK, ↓reduceIte, Nat.reduceEqDiff])
    | with_reducible exact popsD_stop
    | (with_reducible apply pguard_intro <;> (intro hc; (try simp only [hcb, reduceCtorEq, forall_const, ne_eq] at hc); first | (exfalso; omega) | (exfalso; exact hc trivial) | refine Ev_in ?_))
    | (with_reducible apply W_cond_k; intro _ _ ea eb; (simp only [condK, cob, opnd, constPV, Nat.reduceEqDiff, Nat.reduceLT, ↓reduceIte, hcb, reduceCtorEq, forall_const, ne_eq]); subst ea eb; first | (refine ⟨fun hc => ?_, fun hc => ?_⟩ <;> first | (exfalso; omega) | (exfalso; exact hc trivial) | skip) | skip)
    | (with_reducible apply hnx; clear hnx nx)
    | (with_reducible refine And.intro (by omega) ?_)
    | (with_reducible refine And.intro ?_ ?_)
    | (clear hnx nx; with_reducible apply hnx; clear hnx nx)
    | (clear hnx nx; clear hnx nx; with_reducible apply hnx; clear hnx nx)
    | (clear hnx nx; clear hnx nx; clear hnx nx; with_reducible apply hnx; clear hnx nx))
    all_goals first
      | exact absurd trivial hc
      | (exfalso
         omega)
      | skip
    refine At_fr (by simp only [wkb, Nat.reduceEqDiff, Nat.reduceLT, ↓reduceIte]) ?_
    exact Hs.refl _
set_option maxRecDepth 100000 in
set_option maxHeartbeats 8000000 in
theorem runs_in4 (G : Globs) (key : UInt64) (l : List Int) (a b c d nS nT : Int) (sent : List (List UInt8)) (to : List Nat) (i : Nat) (hi : i < 60) (j : Nat) (hj : j < sent.length) (n : Nat) (hn : n < 1073741824) (y : List UInt8) (hy : 12 ≤ y.length ∧ y.length ≤ 200000) (ra rb : RE) (H : Heap) (hI : RunI i key ra rb sent to) (hH : RunH a b c d ra rb H)
    (K : Exit → PState → Prop) (hK : ∀ σ' ra' rb' H', RunI (i + 1) key ra' rb' sent to → RunH a b c d ra' rb' H' → At σ' (runT key l a b c d nS nT sent to i H') → K .normal σ') :
    W Try.prog G [] (nav (Try.f3.body.getD .skip) [1, 1, 1, 1, 1, 1, 0, 1, 0, 0, 1, 0, 0, 1, 1, 0, 1, 0, 1, 1, 1, 1, 1, 1, 1, 1]) ⟨fr 258 ((19, pl y) :: (18, pn j) :: (12, pn n) :: runL key l a b c d nS nT sent.length to.length i), runO nS nT sent to H⟩ K := by
  have hnm : True := trivial
  have nxt := fun (x : List UInt8) (hx : 12 ≤ x.length ∧ x.length ≤ 200000) => runs_in3 G key l a b c d nS nT sent to i hi j hj n hn x hx ra rb H hI hH K hK
  have r17 : Int.tmod (n : Int) 17 = ((n % 17 : Nat) : Int) := (Int.ofNat_tmod n 17).symm
  have r3 : Int.tmod (n : Int) 3 = ((n % 3 : Nat) : Int) := (Int.ofNat_tmod n 3).symm
  have d17 : Int.tdiv (n : Int) 17 = ((n / 17 : Nat) : Int) := (Int.ofNat_tdiv n 17).symm
  have d510 : Int.tdiv (n : Int) 510 = ((n / 510 : Nat) : Int) := (Int.ofNat_tdiv n 510).symm
  have r30 : Int.tmod ((n / 17 : Nat) : Int) 30 = ((n / 17 % 30 : Nat) : Int) := (Int.ofNat_tmod _ 30).symm
  have r9 : Int.tmod ((n / 510 : Nat) : Int) 9 = ((n / 510 % 9 : Nat) : Int) := (Int.ofNat_tmod _ 9).symm
  have hmt : ∀ m, List.take m (y.map pbyte) = (y.take m).map pbyte := fun m => List.map_take.symm
  have hyt : (y.take (n % 3)).length ≤ 100000 := by rw [List.length_take]; omega
  have a1 : inR ((n / 17 % 30 : Nat) : Int) := ⟨by omega, by omega⟩
  have a2 : inR (((n / 510 % 9 : Nat) : Int) - 1) := ⟨by omega, by omega⟩
  have w1 := rbytesP_c G ((n / 17 % 30 : Nat) : Int) (((n / 510 % 9 : Nat) : Int) - 1) (y.take (n % 3)) a1 a2 hyt
  have w2 := rseal_c G key (packB ((n / 17 % 30 : Nat) : Int) (((n / 510 % 9 : Nat) : Int) - 1) (y.take (n % 3))) (by have := packB_len _ _ _ a1 a2 hyt; omega)
  have hs1 := sealP_ge key _ _ _ a1 a2 hyt
  have hs2 := sealP_le key _ _ _ a1 a2 hyt
  rw [← sealP] at w2
  generalize sealP key ((n / 17 % 30 : Nat) : Int) (((n / 510 % 9 : Nat) : Int) - 1) (y.take (n % 3)) = z at *
  generalize packB ((n / 17 % 30 : Nat) : Int) (((n / 510 % 9 : Nat) : Int) - 1) (y.take (n % 3)) = pk at *
  simp only [Try.f3, nav, Option.getD_some] at nxt ⊢
  by_cases h17 : n % 17 = 0
  · repeat' (first
    | (with_reducible refine W_at ?_ (nxt z ⟨hs1, hs2⟩))
    | (with_reducible apply W_seq_k; intro nx hnx)
    | (with_reducible first | apply W_block | apply W_scope)
    | (with_reducible refine W_prune 3064992543233415047619612257985451157307474195171508167 ?_; simp only [prb, Nat.reducePow, Nat.reduceDiv, Nat.reduceMod, Nat.reduceBEq]; first | (with_reducible apply W_region_l) | with_reducible refine W_region_draw (id := 29) 3 (.op 0 true (.op 1 true (.op 2 true (.op 3 true (.op 4 true (.op 6 true (.op 7 true (.op 10 true (.alt 5 false (.alt 8 true (.alt 9 true (.op 11 false (.op 12 true (.done))) .stop) .stop) (.alt 8 true (.alt 5 false (.alt 9 true (.op 11 false (.op 12 true (.done))) .stop) (.alt 9 true (.op 5 false (.op 11 false (.op 12 true (.done)))) .stop)) .stop)))))))))) (by kernel_rfl) ?_ | with_reducible refine W_region_draw (id := 15) 3 (.op 0 true (.op 1 true (.op 2 true (.op 3 true (.op 4 true (.op 5 true (.op 6 true (.op 7 true (.op 8 true (.op 9 false (.op 10 true (.done)))))))))))) (by kernel_rfl) ?_ | with_reducible refine W_region_draw (id := 45) 1 (.op 0 true (.op 1 true (.op 2 true (.op 3 true (.op 5 true (.op 6 true (.op 7 true (.op 8 true (.op 9 true (.op 10 true (.op 11 true (.op 12 true (.op 13 true (.op 14 true (.op 15 true (.op 16 true (.op 17 true (.op 18 true (.op 19 true (.op 20 true (.op 4 true (.op 21 true (.op 22 true (.op 23 true (.op 24 true (.op 25 true (.op 26 true (.op 28 true (.op 29 true (.op 30 true (.op 31 true (.op 32 true (.op 33 true (.op 34 true (.op 27 true (.op 35 true (.op 36 true (.done)))))))))))))))))))))))))))))))))))))) (by kernel_rfl) ?_)
    | ((first | (with_reducible apply WL_op; intro nx hnx) | with_reducible refine Ev_out ?_ | (with_reducible apply popsD_op; intro nx hnx) | (with_reducible refine popsD_alt ?_ ?_; intro nx hnx) | (with_reducible refine pfresh_k hnm fun nm hnm => ?_; (try simp only [fmb] at hnm)) | (with_reducible refine pborn_mu hnm fun nm hnm => ?_; (try simp only [fmb] at hnm)) | (with_reducible refine pmaybe_k ?_; intro bn hbn)); try (simp (maxSteps := 2000000) (disch := omega) only [evb, evd, pbuiltin, constPV, pnck, seqK, blockK, scopeK, pbin, pun, ppick, plen, piaddr, pindex, pfield, pslice, pbound, pconv, pelems, pextract, pmm, PV.mem?, PV.one, PV.cells, pageq, peqs, peq1, pmakes, pstore, pbytes, pmark, psrc, pkey, pnile, pcap, pgrow, List.set, Value.cells, ↓popG_eq, ↓pop.eq_1, ↓List.getElem?_map, ↓List.getElem?_cons_zero, ↓List.getElem?_cons_succ, Value.oneCell', Nat.reduceAdd, Nat.reduceMul, Nat.reduceSub, Nat.reduceLeDiff, Nat.reduceEqDiff, ↓reduceIte, ne_eq, reduceCtorEq, forall_const, exists_and_left, exists_eq_left', eq_self, Nat.reduceLT, Int.reduceLT, Int.reduceLE, Int.reduceToNat, Int.reduceAdd, Int.reduceSub, Int.reduceNeg, hnm, Try.tf0, Try.tf1, Try.tf2, Try.tf3, Try.tf4, Try.tf5, Try.tf7, Try.tf22, Try.tf23, Try.tf24, Try.tf26, Try.tf28, Try.tf31, Try.tf32, Try.tf33, Try.tf34, Try.tf35, Try.tf43, Try.tf44, Try.tf65, Try.teq79, Try.call9, Try.call10, Try.call11, Try.call12, Try.call13, Try.call14, Try.call15, Try.call16, Try.call17, Try.call18, Try.call19, Try.call20, Try.call21, Try.call22, Try.call23, r17, r3, d17, d510, r30, r9, hmt, Int.toNat_natCast]); repeat (refine And.intro (by omega) ?_))
    | ((with_reducible first | apply WL_nil | apply W_label | apply W_skip | apply W_exit | apply W_ret | apply popsD_done); try simp only [seqK, blockK, scopeK, ↓reduceIte, Nat.reduceEqDiff])
    | with_reducible exact popsD_stop
    | (with_reducible apply pguard_intro <;> (intro hc; (try simp only [hcb, reduceCtorEq, forall_const, ne_eq] at hc); first | (exfalso; omega) | (exfalso; exact hc trivial) | refine Ev_in ?_))
    | (with_reducible apply W_cond_k; intro _ _ ea eb; (simp only [condK, cob, opnd, constPV, Nat.reduceEqDiff, Nat.reduceLT, ↓reduceIte, hcb, reduceCtorEq, forall_const, ne_eq]); subst ea eb; first | (refine ⟨fun hc => ?_, fun hc => ?_⟩ <;> first | (exfalso; omega) | (exfalso; exact hc trivial) | skip) | skip)
    | (with_reducible apply hnx; clear hnx nx)
    | (with_reducible refine And.intro (by omega) ?_)
    | (with_reducible refine And.intro ?_ ?_)
    | (with_reducible refine pcall_k (w1) ?_; rintro _ _ ⟨rfl, rfl⟩ -; refine Ev_in ?_)
    | (with_reducible refine pcall_k (w2) ?_; rintro _ _ ⟨rfl, rfl⟩ -; refine Ev_in ?_)
    | (clear hnx nx; with_reducible apply hnx; clear hnx nx)
    | (clear hnx nx; clear hnx nx; with_reducible apply hnx; clear hnx nx)
    | (clear hnx nx; clear hnx nx; clear hnx nx; with_reducible apply hnx; clear hnx nx))
    all_goals first
      | exact absurd trivial hc
      | (exfalso
         omega)
      | skip
    refine At_fr (by simp only [wkb, Nat.reduceEqDiff, Nat.reduceLT, ↓reduceIte]) ?_
    exact Hs.refl _
  · repeat' (first
    | (with_reducible refine W_at ?_ (nxt y hy))
    | (with_reducible apply W_seq_k; intro nx hnx)
    | (with_reducible first | apply W_block | apply W_scope)
    | (with_reducible refine W_prune 3064992543233415047619612257985451157307474195171508167 ?_; simp only [prb, Nat.reducePow, Nat.reduceDiv, Nat.reduceMod, Nat.reduceBEq]; first | (with_reducible apply W_region_l) | with_reducible refine W_region_draw (id := 29) 3 (.op 0 true (.op 1 true (.op 2 true (.op 3 true (.op 4 true (.op 6 true (.op 7 true (.op 10 true (.alt 5 false (.alt 8 true (.alt 9 true (.op 11 false (.op 12 true (.done))) .stop) .stop) (.alt 8 true (.alt 5 false (.alt 9 true (.op 11 false (.op 12 true (.done))) .stop) (.alt 9 true (.op 5 false (.op 11 false (.op 12 true (.done)))) .stop)) .stop)))))))))) (by kernel_rfl) ?_ | with_reducible refine W_region_draw (id := 15) 3 (.op 0 true (.op 1 true (.op 2 true (.op 3 true (.op 4 true (.op 5 true (.op 6 true (.op 7 true (.op 8 true (.op 9 false (.op 10 true (.done)))))))))))) (by kernel_rfl) ?_ | with_reducible refine W_region_draw (id := 45) 1 (.op 0 true (.op 1 true (.op 2 true (.op 3 true (.op 5 true (.op 6 true (.op 7 true (.op 8 true (.op 9 true (.op 10 true (.op 11 true (.op 12 true (.op 13 true (.op 14 true (.op 15 true (.op 16 true (.op 17 true (.op 18 true (.op 19 true (.op 20 true (.op 4 true (.op 21 true (.op 22 true (.op 23 true (.op 24 true (.op 25 true (.op 26 true (.op 28 true (.op 29 true (.op 30 true (.op 31 true (.op 32 true (.op 33 true (.op 34 true (.op 27 true (.op 35 true (.op 36 true (.done)))))))))))))))))))))))))))))))))))))) (by kernel_rfl) ?_)
    | ((first | (with_reducible apply WL_op; intro nx hnx) | with_reducible refine Ev_out ?_ | (with_reducible apply popsD_op; intro nx hnx) | (with_reducible refine popsD_alt ?_ ?_; intro nx hnx) | (with_reducible refine pfresh_k hnm fun nm hnm => ?_; (try simp only [fmb] at hnm)) | (with_reducible refine pborn_mu hnm fun nm hnm => ?_; (try simp only [fmb] at hnm)) | (with_reducible refine pmaybe_k ?_; intro bn hbn)); try (simp (maxSteps := 2000000) (disch := omega) only [evb, evd, pbuiltin, constPV, pnck, seqK, blockK, scopeK, pbin, pun, ppick, plen, piaddr, pindex, pfield, pslice, pbound, pconv, pelems, pextract, pmm, PV.mem?, PV.one, PV.cells, pageq, peqs, peq1, pmakes, pstore, pbytes, pmark, psrc, pkey, pnile, pcap, pgrow, List.set, Value.cells, ↓popG_eq, ↓pop.eq_1, ↓List.getElem?_map, ↓List.getElem?_cons_zero, ↓List.getElem?_cons_succ, Value.oneCell', Nat.reduceAdd, Nat.reduceMul, Nat.reduceSub, Nat.reduceLeDiff, Nat.reduceEqDiff, ↓reduceIte, ne_eq, reduceCtorEq, forall_const, exists_and_left, exists_eq_left', eq_self, Nat.reduceLT, Int.reduceLT, Int.reduceLE, Int.reduceToNat, Int.reduceAdd, Int.reduceSub, Int.reduceNeg, hnm, Try.tf0, Try.tf1, Try.tf2, Try.tf3, Try.tf4, Try.tf5, Try.tf7, Try.tf22, Try.tf23, Try.tf24, Try.tf26, Try.tf28, Try.tf31, Try.tf32, Try.tf33, Try.tf34, Try.tf35, Try.tf43, Try.tf44, Try.tf65, Try.teq79, Try.call9, Try.call10, Try.call11, Try.call12, Try.call13, Try.call14, Try.call15, Try.call16, Try.call17, Try.call18, Try.call19, Try.call20, Try.call21, Try.call22, Try.call23, r17, r3, d17, d510, r30, r9, hmt, Int.toNat_natCast]); repeat (refine And.intro (by omega) ?_))
    | ((with_reducible first | apply WL_nil | apply W_label | apply W_skip | apply W_exit | apply W_ret | apply popsD_done); try simp only [seqK, blockK, scopeK, ↓reduceIte, Nat.reduceEqDiff])
    | with_reducible exact popsD_stop
    | (with_reducible apply pguard_intro <;> (intro hc; (try simp only [hcb, reduceCtorEq, forall_const, ne_eq] at hc); first | (exfalso; omega) | (exfalso; exact hc trivial) | refine Ev_in ?_))
    | (with_reducible apply W_cond_k; intro _ _ ea eb; (simp only [condK, cob, opnd, constPV, Nat.reduceEqDiff, Nat.reduceLT, ↓reduceIte, hcb, reduceCtorEq, forall_const, ne_eq]); subst ea eb; first | (refine ⟨fun hc => ?_, fun hc => ?_⟩ <;> first | (exfalso; omega) | (exfalso; exact hc trivial) | skip) | skip)
    | (with_reducible apply hnx; clear hnx nx)
    | (with_reducible refine And.intro (by omega) ?_)
    | (with_reducible refine And.intro ?_ ?_)
    | (clear hnx nx; with_reducible apply hnx; clear hnx nx)
    | (clear hnx nx; clear hnx nx; with_reducible apply hnx; clear hnx nx)
    | (clear hnx nx; clear hnx nx; clear hnx nx; with_reducible apply hnx; clear hnx nx))
    all_goals first
      | exact absurd trivial hc
      | (exfalso
         omega)
      | skip
    refine At_fr (by simp only [wkb, Nat.reduceEqDiff, Nat.reduceLT, ↓reduceIte]) ?_
    exact Hs.refl _
end Go.PM

namespace Go.PM
open Go.Proofs
attribute [local irreducible] W PCalls pcall pcallI WL
set_option maxRecDepth 100000 in
set_option maxHeartbeats 8000000 in
theorem runs_in (G : Globs) (key : UInt64) (l : List Int) (a b c d nS nT : Int) (sent : List (List UInt8)) (to : List Nat) (i : Nat) (hi : i < 60) (n : Nat) (hn : n < 1073741824) (ra rb : RE) (H : Heap) (hI : RunI i key ra rb sent to) (hH : RunH a b c d ra rb H)
    (K : Exit → PState → Prop) (hK : ∀ σ' ra' rb' H', RunI (i + 1) key ra' rb' sent to → RunH a b c d ra' rb' H' → At σ' (runT key l a b c d nS nT sent to i H') → K .normal σ') (hK1 : ∀ σ', At σ' (runT key l a b c d nS nT sent to i H) → K (.exit 1) σ') :
    W Try.prog G [] (nav (Try.f3.body.getD .skip) [1, 1, 1, 1, 1, 1, 0, 1, 0, 0, 1, 0, 0, 1, 1, 0, 1, 0, 1, 1, 1, 1]) ⟨fr 258 ((12, pn n) :: runL key l a b c d nS nT sent.length to.length i), runO nS nT sent to H⟩ K := by
  have hnm : True := trivial
  refine W_nd fun nd => ?_
  obtain ⟨hne, hn1, hn2⟩ := run_ne nd
  clear nd
  have hsl := hI.len
  by_cases h0 : sent.length = 0
  · simp only [Try.f3, nav, Option.getD_some]
    repeat' (first
    | (with_reducible apply W_seq_k; intro nx hnx)
    | (with_reducible first | apply W_block | apply W_scope)
    | (with_reducible refine W_prune 3064992543233415047619612257985451157307474195171508167 ?_; simp only [prb, Nat.reducePow, Nat.reduceDiv, Nat.reduceMod, Nat.reduceBEq]; first | (with_reducible apply W_region_l) | with_reducible refine W_region_draw (id := 29) 3 (.op 0 true (.op 1 true (.op 2 true (.op 3 true (.op 4 true (.op 6 true (.op 7 true (.op 10 true (.alt 5 false (.alt 8 true (.alt 9 true (.op 11 false (.op 12 true (.done))) .stop) .stop) (.alt 8 true (.alt 5 false (.alt 9 true (.op 11 false (.op 12 true (.done))) .stop) (.alt 9 true (.op 5 false (.op 11 false (.op 12 true (.done)))) .stop)) .stop)))))))))) (by kernel_rfl) ?_ | with_reducible refine W_region_draw (id := 15) 3 (.op 0 true (.op 1 true (.op 2 true (.op 3 true (.op 4 true (.op 5 true (.op 6 true (.op 7 true (.op 8 true (.op 9 false (.op 10 true (.done)))))))))))) (by kernel_rfl) ?_ | with_reducible refine W_region_draw (id := 45) 1 (.op 0 true (.op 1 true (.op 2 true (.op 3 true (.op 5 true (.op 6 true (.op 7 true (.op 8 true (.op 9 true (.op 10 true (.op 11 true (.op 12 true (.op 13 true (.op 14 true (.op 15 true (.op 16 true (.op 17 true (.op 18 true (.op 19 true (.op 20 true (.op 4 true (.op 21 true (.op 22 true (.op 23 true (.op 24 true (.op 25 true (.op 26 true (.op 28 true (.op 29 true (.op 30 true (.op 31 true (.op 32 true (.op 33 true (.op 34 true (.op 27 true (.op 35 true (.op 36 true (.done)))))))))))))))))))))))))))))))))))))) (by kernel_rfl) ?_)
    | ((first | (with_reducible apply WL_op; intro nx hnx) | with_reducible refine Ev_out ?_ | (with_reducible apply popsD_op; intro nx hnx) | (with_reducible refine popsD_alt ?_ ?_; intro nx hnx) | (with_reducible refine pfresh_k hnm fun nm hnm => ?_; (try simp only [fmb] at hnm)) | (with_reducible refine pborn_mu hnm fun nm hnm => ?_; (try simp only [fmb] at hnm)) | (with_reducible refine pmaybe_k ?_; intro bn hbn)); try (simp (maxSteps := 2000000) (disch := omega) only [evb, evd, pbuiltin, constPV, pnck, seqK, blockK, scopeK, pbin, pun, ppick, plen, piaddr, pindex, pfield, pslice, pbound, pconv, pelems, pextract, pmm, PV.mem?, PV.one, PV.cells, pageq, peqs, peq1, pmakes, pstore, pbytes, pmark, psrc, pkey, pnile, pcap, pgrow, List.set, Value.cells, ↓popG_eq, ↓pop.eq_1, ↓List.getElem?_map, ↓List.getElem?_cons_zero, ↓List.getElem?_cons_succ, Value.oneCell', Nat.reduceAdd, Nat.reduceMul, Nat.reduceSub, Nat.reduceLeDiff, Nat.reduceEqDiff, ↓reduceIte, ne_eq, reduceCtorEq, forall_const, exists_and_left, exists_eq_left', eq_self, Nat.reduceLT, Int.reduceLT, Int.reduceLE, Int.reduceToNat, Int.reduceAdd, Int.reduceSub, Int.reduceNeg, hnm, Try.tf0, Try.tf1, Try.tf2, Try.tf3, Try.tf4, Try.tf5, Try.tf7, Try.tf22, Try.tf23, Try.tf24, Try.tf26, Try.tf28, Try.tf31, Try.tf32, Try.tf33, Try.tf34, Try.tf35, Try.tf43, Try.tf44, Try.tf65, Try.teq79, Try.call9, Try.call10, Try.call11, Try.call12, Try.call13, Try.call14, Try.call15, Try.call16, Try.call17, Try.call18, Try.call19, Try.call20, Try.call21, Try.call22, Try.call23]); repeat (refine And.intro (by omega) ?_))
    | ((with_reducible first | apply WL_nil | apply W_label | apply W_skip | apply W_exit | apply W_ret | apply popsD_done); try simp only [seqK, blockK, scopeK, ↓reduceIte, Nat.reduceEqDiff])
    | with_reducible exact popsD_stop
    | (with_reducible apply pguard_intro <;> (intro hc; (try simp only [hcb, reduceCtorEq, forall_const, ne_eq] at hc); first | (exfalso; omega) | (exfalso; exact hc trivial) | refine Ev_in ?_))
    | (with_reducible apply W_cond_k; intro _ _ ea eb; (simp only [condK, cob, opnd, constPV, Nat.reduceEqDiff, Nat.reduceLT, ↓reduceIte, hcb, reduceCtorEq, forall_const, ne_eq]); subst ea eb; first | (refine ⟨fun hc => ?_, fun hc => ?_⟩ <;> first | (exfalso; omega) | (exfalso; exact hc trivial) | skip) | skip)
    | (with_reducible apply hnx; clear hnx nx)
    | (with_reducible refine And.intro (by omega) ?_)
    | (with_reducible refine And.intro ?_ ?_)
    | (clear hnx nx; with_reducible apply hnx; clear hnx nx)
    | (clear hnx nx; clear hnx nx; with_reducible apply hnx; clear hnx nx)
    | (clear hnx nx; clear hnx nx; clear hnx nx; with_reducible apply hnx; clear hnx nx))
    all_goals first
      | exact absurd trivial hc
      | (exfalso
         omega)
      | skip
    refine hK1 _ ?_
    refine At_fr (by simp only [wkb, Nat.reduceEqDiff, Nat.reduceLT, ↓reduceIte]) ?_
    exact Hs.refl _
  · obtain ⟨r, hr⟩ : ∃ r, r = n / 2 % min sent.length 20 := ⟨_, rfl⟩
    have hrl : r < min sent.length 20 := by rw [hr]; exact Nat.mod_lt _ (by omega)
    have d2 : Int.tdiv (n : Int) 2 = ((n / 2 : Nat) : Int) := (Int.ofNat_tdiv n 2).symm
    have hmin : min (sent.length : Int) 20 = ((min sent.length 20 : Nat) : Int) := by omega
    have r2 : Int.tmod ((n / 2 : Nat) : Int) ((min sent.length 20 : Nat) : Int) = (r : Int) := by rw [hr]; exact (Int.ofNat_tmod _ _).symm
    obtain ⟨j, hj⟩ : ∃ j, j = sent.length - 1 - r := ⟨_, rfl⟩
    have hjl : j < sent.length := by omega
    have hje : (sent.length : Int) - 1 - (r : Int) = (j : Int) := by omega
    obtain ⟨p, hp⟩ : ∃ p, p = sent[j] := ⟨_, rfl⟩
    have hget : sent[j]? = some p := by rw [List.getElem?_eq_getElem hjl, hp]
    have hpl := hI.pk p (List.mem_of_getElem? hget)
    clear hp hr hj
    have fx := few_r G p p.length (by omega) (by omega)
    rw [List.take_length] at fx
    have r13 : Int.tmod (n : Int) 13 = ((n % 13 : Nat) : Int) := (Int.ofNat_tmod n 13).symm
    have d13 : Int.tdiv (n : Int) 13 = ((n / 13 : Nat) : Int) := (Int.ofNat_tdiv n 13).symm
    obtain ⟨q, hq⟩ : ∃ q, q = n / 13 % p.length := ⟨_, rfl⟩
    have hql : q < p.length := by rw [hq]; exact Nat.mod_lt _ (by omega)
    have rq : Int.tmod ((n / 13 : Nat) : Int) (p.length : Int) = (q : Int) := by rw [hq]; exact (Int.ofNat_tmod _ _).symm
    clear hq
    obtain ⟨v, hv⟩ := byte_u8 (n : Int)
    have hset := set_map p q v hql
    have hsl2 : (p.set q v).length = p.length := List.length_set
    have nxt := fun (x : List UInt8) (hx : 12 ≤ x.length ∧ x.length ≤ 200000) => runs_in4 G key l a b c d nS nT sent to i hi j hjl n hn x hx ra rb H hI hH K hK
    have nxt : ∀ (N : Int) (x : List UInt8), x.length = p.length → W Try.prog G [] (nav (Try.f3.body.getD .skip) [1, 1, 1, 1, 1, 1, 0, 1, 0, 0, 1, 0, 0, 1, 1, 0, 1, 0, 1, 1, 1, 1, 1, 1, 1, 1]) ⟨fr 258 ((19, .row N 1 p.length) :: (18, pn j) :: (12, pn n) :: runL key l a b c d nS nT sent.length to.length i), (N, ⟨5, true, 1, x.map pbyte⟩) :: runO nS nT sent to H⟩ K := by
      intro N x hx
      refine W_nd fun nd => ?_
      obtain ⟨f1, f2, f3⟩ := runO_frz (x.map pbyte) hH nd
      refine W_x (Wx_slot (by simp) (by rw [List.length_map, hx]) (by simp [frz, frz1, f2, f3]) f1) ?_
      exact nxt x (by omega)
    simp only [Try.f3, nav, Option.getD_some] at nxt ⊢
    generalize hnn : min sent.length 20 = mm at *
    have hnb : n / 2 < 1073741824 := by omega
    generalize n / 2 = n2 at *
    by_cases h13 : n % 13 = 0
    · repeat' (first
    | (with_reducible refine W_at ?_ (nxt N (p.set q v) hsl2))
    | (with_reducible apply W_seq_k; intro nx hnx)
    | (with_reducible first | apply W_block | apply W_scope)
    | (with_reducible refine W_prune 3064992543233415047619612257985451157307474195171508167 ?_; simp only [prb, Nat.reducePow, Nat.reduceDiv, Nat.reduceMod, Nat.reduceBEq]; first | (with_reducible apply W_region_l) | with_reducible refine W_region_draw (id := 29) 3 (.op 0 true (.op 1 true (.op 2 true (.op 3 true (.op 4 true (.op 6 true (.op 7 true (.op 10 true (.alt 5 false (.alt 8 true (.alt 9 true (.op 11 false (.op 12 true (.done))) .stop) .stop) (.alt 8 true (.alt 5 false (.alt 9 true (.op 11 false (.op 12 true (.done))) .stop) (.alt 9 true (.op 5 false (.op 11 false (.op 12 true (.done)))) .stop)) .stop)))))))))) (by kernel_rfl) ?_ | with_reducible refine W_region_draw (id := 15) 3 (.op 0 true (.op 1 true (.op 2 true (.op 3 true (.op 4 true (.op 5 true (.op 6 true (.op 7 true (.op 8 true (.op 9 false (.op 10 true (.done)))))))))))) (by kernel_rfl) ?_ | with_reducible refine W_region_draw (id := 45) 1 (.op 0 true (.op 1 true (.op 2 true (.op 3 true (.op 5 true (.op 6 true (.op 7 true (.op 8 true (.op 9 true (.op 10 true (.op 11 true (.op 12 true (.op 13 true (.op 14 true (.op 15 true (.op 16 true (.op 17 true (.op 18 true (.op 19 true (.op 20 true (.op 4 true (.op 21 true (.op 22 true (.op 23 true (.op 24 true (.op 25 true (.op 26 true (.op 28 true (.op 29 true (.op 30 true (.op 31 true (.op 32 true (.op 33 true (.op 34 true (.op 27 true (.op 35 true (.op 36 true (.done)))))))))))))))))))))))))))))))))))))) (by kernel_rfl) ?_)
    | ((first | (with_reducible apply WL_op; intro nx hnx) | with_reducible refine Ev_out ?_ | (with_reducible apply popsD_op; intro nx hnx) | (with_reducible refine popsD_alt ?_ ?_; intro nx hnx) | (with_reducible refine pfresh_k hnm fun nm hnm => ?_; (try simp only [fmb] at hnm)) | (with_reducible refine pborn_mu hnm fun nm hnm => ?_; (try simp only [fmb] at hnm)) | (with_reducible refine pmaybe_k ?_; intro bn hbn)); try (simp (maxSteps := 2000000) (disch := omega) only [evb, evd, pbuiltin, constPV, pnck, seqK, blockK, scopeK, pbin, pun, ppick, plen, piaddr, pindex, pfield, pslice, pbound, pconv, pelems, pextract, pmm, PV.mem?, PV.one, PV.cells, pageq, peqs, peq1, pmakes, pstore, pbytes, pmark, psrc, pkey, pnile, pcap, pgrow, List.set, Value.cells, ↓popG_eq, ↓pop.eq_1, ↓List.getElem?_map, ↓List.getElem?_cons_zero, ↓List.getElem?_cons_succ, Value.oneCell', Nat.reduceAdd, Nat.reduceMul, Nat.reduceSub, Nat.reduceLeDiff, Nat.reduceEqDiff, ↓reduceIte, ne_eq, reduceCtorEq, forall_const, exists_and_left, exists_eq_left', eq_self, Nat.reduceLT, Int.reduceLT, Int.reduceLE, Int.reduceToNat, Int.reduceAdd, Int.reduceSub, Int.reduceNeg, hnm, Try.tf0, Try.tf1, Try.tf2, Try.tf3, Try.tf4, Try.tf5, Try.tf7, Try.tf22, Try.tf23, Try.tf24, Try.tf26, Try.tf28, Try.tf31, Try.tf32, Try.tf33, Try.tf34, Try.tf35, Try.tf43, Try.tf44, Try.tf65, Try.teq79, Try.call9, Try.call10, Try.call11, Try.call12, Try.call13, Try.call14, Try.call15, Try.call16, Try.call17, Try.call18, Try.call19, Try.call20, Try.call21, Try.call22, Try.call23, hne, d2, hmin, r2, hje, hget, r13, d13, rq, hv, hset]); repeat (refine And.intro (by omega) ?_))
    | ((with_reducible first | apply WL_nil | apply W_label | apply W_skip | apply W_exit | apply W_ret | apply popsD_done); try simp only [seqK, blockK, scopeK, ↓reduceIte, Nat.reduceEqDiff])
    | with_reducible exact popsD_stop
    | (with_reducible apply pguard_intro <;> (intro hc; (try simp only [hcb, reduceCtorEq, forall_const, ne_eq] at hc); first | (exfalso; omega) | (exfalso; exact hc trivial) | refine Ev_in ?_))
    | (with_reducible apply W_cond_k; intro _ _ ea eb; (simp only [condK, cob, opnd, constPV, Nat.reduceEqDiff, Nat.reduceLT, ↓reduceIte, hcb, reduceCtorEq, forall_const, ne_eq]); subst ea eb; first | (refine ⟨fun hc => ?_, fun hc => ?_⟩ <;> first | (exfalso; omega) | (exfalso; exact hc trivial) | skip) | skip)
    | (with_reducible apply hnx; clear hnx nx)
    | (with_reducible refine And.intro (by omega) ?_)
    | (with_reducible refine And.intro ?_ ?_)
    | ((refine pcall_k fx ?_; rintro _ _ ⟨N, rfl, rfl⟩ -; refine Ev_in ?_))
    | (clear hnx nx; with_reducible apply hnx; clear hnx nx)
    | (clear hnx nx; clear hnx nx; with_reducible apply hnx; clear hnx nx)
    | (clear hnx nx; clear hnx nx; clear hnx nx; with_reducible apply hnx; clear hnx nx))
      all_goals first
        | exact absurd trivial hc
        | (exfalso
           omega)
        | skip
      refine At_fr (by simp only [wkb, Nat.reduceEqDiff, Nat.reduceLT, ↓reduceIte]) ?_
      rw [← hset]
      refine Hs.perm ?_
      simp
    · repeat' (first
    | (with_reducible refine W_at ?_ (nxt N p rfl))
    | (with_reducible apply W_seq_k; intro nx hnx)
    | (with_reducible first | apply W_block | apply W_scope)
    | (with_reducible refine W_prune 3064992543233415047619612257985451157307474195171508167 ?_; simp only [prb, Nat.reducePow, Nat.reduceDiv, Nat.reduceMod, Nat.reduceBEq]; first | (with_reducible apply W_region_l) | with_reducible refine W_region_draw (id := 29) 3 (.op 0 true (.op 1 true (.op 2 true (.op 3 true (.op 4 true (.op 6 true (.op 7 true (.op 10 true (.alt 5 false (.alt 8 true (.alt 9 true (.op 11 false (.op 12 true (.done))) .stop) .stop) (.alt 8 true (.alt 5 false (.alt 9 true (.op 11 false (.op 12 true (.done))) .stop) (.alt 9 true (.op 5 false (.op 11 false (.op 12 true (.done)))) .stop)) .stop)))))))))) (by kernel_rfl) ?_ | with_reducible refine W_region_draw (id := 15) 3 (.op 0 true (.op 1 true (.op 2 true (.op 3 true (.op 4 true (.op 5 true (.op 6 true (.op 7 true (.op 8 true (.op 9 false (.op 10 true (.done)))))))))))) (by kernel_rfl) ?_ | with_reducible refine W_region_draw (id := 45) 1 (.op 0 true (.op 1 true (.op 2 true (.op 3 true (.op 5 true (.op 6 true (.op 7 true (.op 8 true (.op 9 true (.op 10 true (.op 11 true (.op 12 true (.op 13 true (.op 14 true (.op 15 true (.op 16 true (.op 17 true (.op 18 true (.op 19 true (.op 20 true (.op 4 true (.op 21 true (.op 22 true (.op 23 true (.op 24 true (.op 25 true (.op 26 true (.op 28 true (.op 29 true (.op 30 true (.op 31 true (.op 32 true (.op 33 true (.op 34 true (.op 27 true (.op 35 true (.op 36 true (.done)))))))))))))))))))))))))))))))))))))) (by kernel_rfl) ?_)
    | ((first | (with_reducible apply WL_op; intro nx hnx) | with_reducible refine Ev_out ?_ | (with_reducible apply popsD_op; intro nx hnx) | (with_reducible refine popsD_alt ?_ ?_; intro nx hnx) | (with_reducible refine pfresh_k hnm fun nm hnm => ?_; (try simp only [fmb] at hnm)) | (with_reducible refine pborn_mu hnm fun nm hnm => ?_; (try simp only [fmb] at hnm)) | (with_reducible refine pmaybe_k ?_; intro bn hbn)); try (simp (maxSteps := 2000000) (disch := omega) only [evb, evd, pbuiltin, constPV, pnck, seqK, blockK, scopeK, pbin, pun, ppick, plen, piaddr, pindex, pfield, pslice, pbound, pconv, pelems, pextract, pmm, PV.mem?, PV.one, PV.cells, pageq, peqs, peq1, pmakes, pstore, pbytes, pmark, psrc, pkey, pnile, pcap, pgrow, List.set, Value.cells, ↓popG_eq, ↓pop.eq_1, ↓List.getElem?_map, ↓List.getElem?_cons_zero, ↓List.getElem?_cons_succ, Value.oneCell', Nat.reduceAdd, Nat.reduceMul, Nat.reduceSub, Nat.reduceLeDiff, Nat.reduceEqDiff, ↓reduceIte, ne_eq, reduceCtorEq, forall_const, exists_and_left, exists_eq_left', eq_self, Nat.reduceLT, Int.reduceLT, Int.reduceLE, Int.reduceToNat, Int.reduceAdd, Int.reduceSub, Int.reduceNeg, hnm, Try.tf0, Try.tf1, Try.tf2, Try.tf3, Try.tf4, Try.tf5, Try.tf7, Try.tf22, Try.tf23, Try.tf24, Try.tf26, Try.tf28, Try.tf31, Try.tf32, Try.tf33, Try.tf34, Try.tf35, Try.tf43, Try.tf44, Try.tf65, Try.teq79, Try.call9, Try.call10, Try.call11, Try.call12, Try.call13, Try.call14, Try.call15, Try.call16, Try.call17, Try.call18, Try.call19, Try.call20, Try.call21, Try.call22, Try.call23, hne, d2, hmin, r2, hje, hget, r13, d13, rq, hv, hset]); repeat (refine And.intro (by omega) ?_))
    | ((with_reducible first | apply WL_nil | apply W_label | apply W_skip | apply W_exit | apply W_ret | apply popsD_done); try simp only [seqK, blockK, scopeK, ↓reduceIte, Nat.reduceEqDiff])
    | with_reducible exact popsD_stop
    | (with_reducible apply pguard_intro <;> (intro hc; (try simp only [hcb, reduceCtorEq, forall_const, ne_eq] at hc); first | (exfalso; omega) | (exfalso; exact hc trivial) | refine Ev_in ?_))
    | (with_reducible apply W_cond_k; intro _ _ ea eb; (simp only [condK, cob, opnd, constPV, Nat.reduceEqDiff, Nat.reduceLT, ↓reduceIte, hcb, reduceCtorEq, forall_const, ne_eq]); subst ea eb; first | (refine ⟨fun hc => ?_, fun hc => ?_⟩ <;> first | (exfalso; omega) | (exfalso; exact hc trivial) | skip) | skip)
    | (with_reducible apply hnx; clear hnx nx)
    | (with_reducible refine And.intro (by omega) ?_)
    | (with_reducible refine And.intro ?_ ?_)
    | ((refine pcall_k fx ?_; rintro _ _ ⟨N, rfl, rfl⟩ -; refine Ev_in ?_))
    | (clear hnx nx; with_reducible apply hnx; clear hnx nx)
    | (clear hnx nx; clear hnx nx; with_reducible apply hnx; clear hnx nx)
    | (clear hnx nx; clear hnx nx; clear hnx nx; with_reducible apply hnx; clear hnx nx))
      all_goals first
        | exact absurd trivial hc
        | (exfalso
           omega)
        | skip
      refine At_fr (by simp only [wkb, Nat.reduceEqDiff, Nat.reduceLT, ↓reduceIte]) ?_
      exact Hs.refl _
end Go.PM

namespace Go.PM
open Go.Proofs
theorem look_in {H : Heap} {n : Int} {o : PObj} (h : (n, o) ∈ H) (nd : (names H).Nodup) : look H n = some o := by
  induction H with
  | nil => cases h
  | cons x r ih =>
    obtain ⟨m, q⟩ := x
    simp only [names, List.map_cons, List.nodup_cons] at nd
    rcases List.mem_cons.1 h with h | h
    · cases h
      simp only [look, if_true]
    · have hne : ¬ m = n := fun e => nd.1 (e ▸ List.mem_map.2 ⟨_, h, rfl⟩)
      simp only [look, if_neg hne]
      exact ih h nd.2
/-- An end's cells. -/
@[reducible] def endC (w m : Int) (s : LE) : List PV := [pint .i64 s.win, pq s.key, .row w 1 s.wait.length, pint .i64 s.acked, pint .i64 s.got, .mp m, pbool s.owing, pint .i64 s.forged]
@[reducible] def refC (w m : Int) (s : RE) : List PV := [pint .i64 s.win, pq s.key, .row w 1 s.sent.length, pint .i64 s.acked, pint .i64 s.got, .row m 2 s.held.length, pbool s.owing, pint .i64 s.forged]
/-- Where an end lies. -/
theorem run_look {a b c d nS nT : Int} {ra rb : RE} {sent : List (List UInt8)} {to : List Nat} {H : Heap} (hH : RunH a b c d ra rb H) (nd : (names (runO nS nT sent to H)).Nodup) :
    (∃ w m, look (runO nS nT sent to H) a = some ⟨65, false, 0, endC w m (toL ra)⟩) ∧ (∃ w m, look (runO nS nT sent to H) b = some ⟨65, false, 0, endC w m (toL rb)⟩) ∧
    (∃ w m, look (runO nS nT sent to H) c = some ⟨31, false, 0, refC w m ra⟩) ∧ ∃ w m, look (runO nS nT sent to H) d = some ⟨31, false, 0, refC w m rb⟩ := by
  obtain ⟨Ra, Rb, Ha, Hb, rfl, ⟨w1, m1, rfl⟩, ⟨w2, m2, rfl⟩, ⟨w3, m3, rfl⟩, ⟨w4, m4, rfl⟩⟩ := hH
  exact ⟨⟨w3, m3, look_in (by simp) nd⟩, ⟨w4, m4, look_in (by simp) nd⟩, ⟨w1, m1, look_in (by simp) nd⟩, ⟨w2, m2, look_in (by simp) nd⟩⟩
attribute [local irreducible] W PCalls pcall pcallI WL
set_option maxRecDepth 100000 in
set_option maxHeartbeats 8000000 in
theorem waiting_i (G : Globs) (w m : Int) (s : LE) : PCalls Try.prog G 21 [.iptr (endC w m s) 0] [] (fun res H => res = pint .i64 s.wait.length ∧ H = []) := by
  (refine PCalls_f Try.func21 rfl Try.ntmps21 Try.results21 (by simp) fun fin hfin => ?_; have hnm : True := trivial; simp (maxSteps := 2000000) (disch := omega) only [evb, evd, pbuiltin, constPV, pnck, seqK, blockK, scopeK, pbin, pun, ppick, plen, piaddr, pindex, pfield, pslice, pbound, pconv, pelems, pextract, pmm, PV.mem?, PV.one, PV.cells, pageq, peqs, peq1, pmakes, pstore, pbytes, pmark, psrc, pkey, pnile, pcap, pgrow, List.set, Value.cells, ↓popG_eq, ↓pop.eq_1, ↓List.getElem?_map, ↓List.getElem?_cons_zero, ↓List.getElem?_cons_succ, Value.oneCell', Nat.reduceAdd, Nat.reduceMul, Nat.reduceSub, Nat.reduceLeDiff, Nat.reduceEqDiff, ↓reduceIte, ne_eq, reduceCtorEq, forall_const, exists_and_left, exists_eq_left', eq_self, Nat.reduceLT, Int.reduceLT, Int.reduceLE, Int.reduceToNat, Int.reduceAdd, Int.reduceSub, Int.reduceNeg, hnm, Try.tf0, Try.tf2, Try.tf3, Try.tf5, Try.tf28, Try.tf33, Try.tf35, Try.tf65, Try.teq79])
  repeat' (first
    | (with_reducible apply W_seq_k; intro nx hnx)
    | (with_reducible first | apply W_block | apply W_scope)
    | (with_reducible refine W_prune 5 ?_; simp only [prb, Nat.reducePow, Nat.reduceDiv, Nat.reduceMod, Nat.reduceBEq]; with_reducible apply W_region_l)
    | ((first | (with_reducible apply WL_op; intro nx hnx) | with_reducible refine Ev_out ?_); try (simp (maxSteps := 2000000) (disch := omega) only [evb, evd, pbuiltin, constPV, pnck, seqK, blockK, scopeK, pbin, pun, ppick, plen, piaddr, pindex, pfield, pslice, pbound, pconv, pelems, pextract, pmm, PV.mem?, PV.one, PV.cells, pageq, peqs, peq1, pmakes, pstore, pbytes, pmark, psrc, pkey, pnile, pcap, pgrow, List.set, Value.cells, ↓popG_eq, ↓pop.eq_1, ↓List.getElem?_map, ↓List.getElem?_cons_zero, ↓List.getElem?_cons_succ, Value.oneCell', Nat.reduceAdd, Nat.reduceMul, Nat.reduceSub, Nat.reduceLeDiff, Nat.reduceEqDiff, ↓reduceIte, ne_eq, reduceCtorEq, forall_const, exists_and_left, exists_eq_left', eq_self, Nat.reduceLT, Int.reduceLT, Int.reduceLE, Int.reduceToNat, Int.reduceAdd, Int.reduceSub, Int.reduceNeg, hnm, Try.tf0, Try.tf2, Try.tf3, Try.tf5, Try.tf28, Try.tf33, Try.tf35, Try.tf65, Try.teq79]); repeat (refine And.intro (by omega) ?_))
    | ((with_reducible first | apply WL_nil | apply W_label | apply W_skip | apply W_exit | apply W_ret); try simp only [seqK, blockK, scopeK, ↓reduceIte, Nat.reduceEqDiff])
    | (with_reducible apply W_cond_k; intro _ _ ea eb; (simp only [condK, cob, opnd, constPV, Nat.reduceEqDiff, Nat.reduceLT, ↓reduceIte, hcb, reduceCtorEq, forall_const, ne_eq]); subst ea eb; first | (refine ⟨fun hc => ?_, fun hc => ?_⟩ <;> first | (exfalso; omega) | (exfalso; exact hc trivial) | skip) | skip)
    | (with_reducible apply hnx; clear hnx nx)
    | (with_reducible refine And.intro (by omega) ?_)
    | (with_reducible refine And.intro ?_ ?_)
    | (clear hnx nx; with_reducible apply hnx; clear hnx nx)
    | (clear hnx nx; clear hnx nx; with_reducible apply hnx; clear hnx nx)
    | (clear hnx nx; clear hnx nx; clear hnx nx; with_reducible apply hnx; clear hnx nx))
  refine hfin _ _ (Fin_ret1 rfl (Sub_nil _) ?_); simp only [List.getD_cons_zero, List.getD_cons_succ, fr_getD_cons, fr_getD_nil, Nat.reduceEqDiff, Nat.reduceLT, ↓reduceIte]
  exact ⟨by trivial, by trivial⟩
set_option maxRecDepth 100000 in
set_option maxHeartbeats 8000000 in
theorem forged_i (G : Globs) (w m : Int) (s : LE) : PCalls Try.prog G 22 [.iptr (endC w m s) 0] [] (fun res H => res = pint .i64 s.forged ∧ H = []) := by
  (refine PCalls_f Try.func22 rfl Try.ntmps22 Try.results22 (by simp) fun fin hfin => ?_; have hnm : True := trivial; simp (maxSteps := 2000000) (disch := omega) only [evb, evd, pbuiltin, constPV, pnck, seqK, blockK, scopeK, pbin, pun, ppick, plen, piaddr, pindex, pfield, pslice, pbound, pconv, pelems, pextract, pmm, PV.mem?, PV.one, PV.cells, pageq, peqs, peq1, pmakes, pstore, pbytes, pmark, psrc, pkey, pnile, pcap, pgrow, List.set, Value.cells, ↓popG_eq, ↓pop.eq_1, ↓List.getElem?_map, ↓List.getElem?_cons_zero, ↓List.getElem?_cons_succ, Value.oneCell', Nat.reduceAdd, Nat.reduceMul, Nat.reduceSub, Nat.reduceLeDiff, Nat.reduceEqDiff, ↓reduceIte, ne_eq, reduceCtorEq, forall_const, exists_and_left, exists_eq_left', eq_self, Nat.reduceLT, Int.reduceLT, Int.reduceLE, Int.reduceToNat, Int.reduceAdd, Int.reduceSub, Int.reduceNeg, hnm, Try.tf0, Try.tf3, Try.tf7, Try.tf35, Try.tf65, Try.teq79])
  repeat' (first
    | (with_reducible apply W_seq_k; intro nx hnx)
    | (with_reducible first | apply W_block | apply W_scope)
    | (with_reducible refine W_prune 5 ?_; simp only [prb, Nat.reducePow, Nat.reduceDiv, Nat.reduceMod, Nat.reduceBEq]; with_reducible apply W_region_l)
    | ((first | (with_reducible apply WL_op; intro nx hnx) | with_reducible refine Ev_out ?_); try (simp (maxSteps := 2000000) (disch := omega) only [evb, evd, pbuiltin, constPV, pnck, seqK, blockK, scopeK, pbin, pun, ppick, plen, piaddr, pindex, pfield, pslice, pbound, pconv, pelems, pextract, pmm, PV.mem?, PV.one, PV.cells, pageq, peqs, peq1, pmakes, pstore, pbytes, pmark, psrc, pkey, pnile, pcap, pgrow, List.set, Value.cells, ↓popG_eq, ↓pop.eq_1, ↓List.getElem?_map, ↓List.getElem?_cons_zero, ↓List.getElem?_cons_succ, Value.oneCell', Nat.reduceAdd, Nat.reduceMul, Nat.reduceSub, Nat.reduceLeDiff, Nat.reduceEqDiff, ↓reduceIte, ne_eq, reduceCtorEq, forall_const, exists_and_left, exists_eq_left', eq_self, Nat.reduceLT, Int.reduceLT, Int.reduceLE, Int.reduceToNat, Int.reduceAdd, Int.reduceSub, Int.reduceNeg, hnm, Try.tf0, Try.tf3, Try.tf7, Try.tf35, Try.tf65, Try.teq79]); repeat (refine And.intro (by omega) ?_))
    | ((with_reducible first | apply WL_nil | apply W_label | apply W_skip | apply W_exit | apply W_ret); try simp only [seqK, blockK, scopeK, ↓reduceIte, Nat.reduceEqDiff])
    | (with_reducible apply W_cond_k; intro _ _ ea eb; (simp only [condK, cob, opnd, constPV, Nat.reduceEqDiff, Nat.reduceLT, ↓reduceIte, hcb, reduceCtorEq, forall_const, ne_eq]); subst ea eb; first | (refine ⟨fun hc => ?_, fun hc => ?_⟩ <;> first | (exfalso; omega) | (exfalso; exact hc trivial) | skip) | skip)
    | (with_reducible apply hnx; clear hnx nx)
    | (with_reducible refine And.intro (by omega) ?_)
    | (with_reducible refine And.intro ?_ ?_)
    | (clear hnx nx; with_reducible apply hnx; clear hnx nx)
    | (clear hnx nx; clear hnx nx; with_reducible apply hnx; clear hnx nx)
    | (clear hnx nx; clear hnx nx; clear hnx nx; with_reducible apply hnx; clear hnx nx))
  refine hfin _ _ (Fin_ret1 rfl (Sub_nil _) ?_); simp only [List.getD_cons_zero, List.getD_cons_succ, fr_getD_cons, fr_getD_nil, Nat.reduceEqDiff, Nat.reduceLT, ↓reduceIte]
  exact ⟨by trivial, by trivial⟩
section
variable {P : Program} {G : Globs} {σ : PState} {fn : FuncId} {d : Option Tmp} {K : PState → Prop} {q : Bool}
/-- A call that looks at an end alone. -/
theorem pcall_look {n : Int} {o : PObj} {v : Value} (hl : look σ.heap n = some o) (hc : PCalls P G fn [.iptr o.cells 0] [] (fun res H => res = .val v ∧ H = [])) (hk : K (PState.put σ d (.val v))) : @pcallI q P G σ d fn [.ptr n 0] ⟨K⟩ := by
  refine pcall_lend n o hl (R := fun res H => res = .val v ∧ H = []) ?_ ?_
  · simpa [frz1] using hc
  · rintro res H ⟨rfl, rfl⟩
    exact ⟨rfl, .val v, hk⟩
end
set_option maxRecDepth 100000 in
set_option maxHeartbeats 8000000 in
theorem runs_check (G : Globs) (key : UInt64) (l : List Int) (a b c d nS nT : Int) (sent : List (List UInt8)) (to : List Nat) (i i' : Nat) (hi : i ≤ 60) (ra rb : RE) (H : Heap) (hI : RunI i key ra rb sent to) (hH : RunH a b c d ra rb H)
    (K : Exit → PState → Prop) (hK : ∀ σ', At σ' (runT key l a b c d nS nT sent to i' H) → K .normal σ') :
    W Try.prog G [] (nav (Try.f3.body.getD .skip) [1, 1, 1, 1, 1, 1, 0, 1, 0, 0, 1, 0, 0, 1, 1, 1]) ⟨fr 258 (runL key l a b c d nS nT sent.length to.length i'), runO nS nT sent to H⟩ K := by
  have hnm : True := trivial
  refine W_nd fun nd => ?_
  obtain ⟨⟨w1, m1, k1⟩, ⟨w2, m2, k2⟩, ⟨w3, m3, k3⟩, ⟨w4, m4, k4⟩⟩ := run_look hH nd
  clear nd
  have c1 := waiting_i G w1 m1 (toL ra)
  have c2 := waiting_i G w2 m2 (toL rb)
  have d1 := forged_i G w1 m1 (toL ra)
  have d2 := forged_i G w2 m2 (toL rb)
  have ea : ((toL ra).wait.length : Int) = (ra.sent.length : Int) - ra.acked := by
    have := hI.a.acked
    simp only [toL, List.length_drop]
    omega
  have eb : ((toL rb).wait.length : Int) = (rb.sent.length : Int) - rb.acked := by
    have := hI.b.acked
    simp only [toL, List.length_drop]
    omega
  have la := hI.a.sent
  have lb := hI.b.sent
  have aa := hI.a.acked
  have ab := hI.b.acked
  rw [ea] at c1
  rw [eb] at c2
  have d1 : PCalls Try.prog G 22 [.iptr (endC w1 m1 (toL ra)) 0] [] (fun res H => res = pint .i64 ra.forged ∧ H = []) := d1
  have d2 : PCalls Try.prog G 22 [.iptr (endC w2 m2 (toL rb)) 0] [] (fun res H => res = pint .i64 rb.forged ∧ H = []) := d2
  simp only [Try.f3, nav, Option.getD_some]
  repeat' (first
    | (with_reducible apply W_seq_k; intro nx hnx)
    | (with_reducible first | apply W_block | apply W_scope)
    | (with_reducible refine W_prune 3064992543233415047619612257985451157307474195171508167 ?_; simp only [prb, Nat.reducePow, Nat.reduceDiv, Nat.reduceMod, Nat.reduceBEq]; first | (with_reducible apply W_region_l) | with_reducible refine W_region_draw (id := 29) 3 (.op 0 true (.op 1 true (.op 2 true (.op 3 true (.op 4 true (.op 6 true (.op 7 true (.op 10 true (.alt 5 false (.alt 8 true (.alt 9 true (.op 11 false (.op 12 true (.done))) .stop) .stop) (.alt 8 true (.alt 5 false (.alt 9 true (.op 11 false (.op 12 true (.done))) .stop) (.alt 9 true (.op 5 false (.op 11 false (.op 12 true (.done)))) .stop)) .stop)))))))))) (by kernel_rfl) ?_ | with_reducible refine W_region_draw (id := 15) 3 (.op 0 true (.op 1 true (.op 2 true (.op 3 true (.op 4 true (.op 5 true (.op 6 true (.op 7 true (.op 8 true (.op 9 false (.op 10 true (.done)))))))))))) (by kernel_rfl) ?_ | with_reducible refine W_region_draw (id := 45) 1 (.op 0 true (.op 1 true (.op 2 true (.op 3 true (.op 5 true (.op 6 true (.op 7 true (.op 8 true (.op 9 true (.op 10 true (.op 11 true (.op 12 true (.op 13 true (.op 14 true (.op 15 true (.op 16 true (.op 17 true (.op 18 true (.op 19 true (.op 20 true (.op 4 true (.op 21 true (.op 22 true (.op 23 true (.op 24 true (.op 25 true (.op 26 true (.op 28 true (.op 29 true (.op 30 true (.op 31 true (.op 32 true (.op 33 true (.op 34 true (.op 27 true (.op 35 true (.op 36 true (.done)))))))))))))))))))))))))))))))))))))) (by kernel_rfl) ?_)
    | ((first | (with_reducible apply WL_op; intro nx hnx) | with_reducible refine Ev_out ?_ | (with_reducible apply popsD_op; intro nx hnx) | (with_reducible refine popsD_alt ?_ ?_; intro nx hnx) | (with_reducible refine pfresh_k hnm fun nm hnm => ?_; (try simp only [fmb] at hnm)) | (with_reducible refine pborn_mu hnm fun nm hnm => ?_; (try simp only [fmb] at hnm)) | (with_reducible refine pmaybe_k ?_; intro bn hbn)); try (simp (maxSteps := 2000000) (disch := omega) only [evb, evd, pbuiltin, constPV, pnck, seqK, blockK, scopeK, pbin, pun, ppick, plen, piaddr, pindex, pfield, pslice, pbound, pconv, pelems, pextract, pmm, PV.mem?, PV.one, PV.cells, pageq, peqs, peq1, pmakes, pstore, pbytes, pmark, psrc, pkey, pnile, pcap, pgrow, List.set, Value.cells, ↓popG_eq, ↓pop.eq_1, ↓List.getElem?_map, ↓List.getElem?_cons_zero, ↓List.getElem?_cons_succ, Value.oneCell', Nat.reduceAdd, Nat.reduceMul, Nat.reduceSub, Nat.reduceLeDiff, Nat.reduceEqDiff, ↓reduceIte, ne_eq, reduceCtorEq, forall_const, exists_and_left, exists_eq_left', eq_self, Nat.reduceLT, Int.reduceLT, Int.reduceLE, Int.reduceToNat, Int.reduceAdd, Int.reduceSub, Int.reduceNeg, hnm, Try.tf0, Try.tf1, Try.tf2, Try.tf3, Try.tf4, Try.tf5, Try.tf7, Try.tf22, Try.tf23, Try.tf24, Try.tf26, Try.tf28, Try.tf31, Try.tf32, Try.tf33, Try.tf34, Try.tf35, Try.tf43, Try.tf44, Try.tf65, Try.teq79, Try.call9, Try.call10, Try.call11, Try.call12, Try.call13, Try.call14, Try.call15, Try.call16, Try.call17, Try.call18, Try.call19, Try.call20, Try.call21, Try.call22, Try.call23]); repeat (refine And.intro (by omega) ?_))
    | ((with_reducible first | apply WL_nil | apply W_label | apply W_skip | apply W_exit | apply W_ret | apply popsD_done); try simp only [seqK, blockK, scopeK, ↓reduceIte, Nat.reduceEqDiff])
    | with_reducible exact popsD_stop
    | (with_reducible apply pguard_intro <;> (intro hc; (try simp only [hcb, reduceCtorEq, forall_const, ne_eq] at hc); first | (exfalso; omega) | (exfalso; exact hc trivial) | refine Ev_in ?_))
    | (with_reducible apply W_cond_k; intro _ _ ea eb; (simp only [condK, cob, opnd, constPV, Nat.reduceEqDiff, Nat.reduceLT, ↓reduceIte, hcb, reduceCtorEq, forall_const, ne_eq]); subst ea eb; first | (refine ⟨fun hc => ?_, fun hc => ?_⟩ <;> first | (exfalso; omega) | (exfalso; exact hc trivial) | skip) | skip)
    | (with_reducible apply hnx; clear hnx nx)
    | (with_reducible refine And.intro (by omega) ?_)
    | (with_reducible refine And.intro ?_ ?_)
    | (clear hnx nx; with_reducible apply hnx; clear hnx nx)
    | (clear hnx nx; clear hnx nx; with_reducible apply hnx; clear hnx nx)
    | (clear hnx nx; clear hnx nx; clear hnx nx; with_reducible apply hnx; clear hnx nx))
  refine W_loop_at (fun z τ => ∃ j : Nat, j ≤ 2 ∧ z = 2 - j ∧ τ = ⟨fr 258 ((24, pn j) :: runL key l a b c d nS nT sent.length to.length i'), runO nS nT sent to H⟩) 2
    ⟨fr 258 ((24, pint .i64 0) :: runL key l a b c d nS nT sent.length to.length i'), runO nS nT sent to H⟩ (by
    refine At_fr (by simp only [wkb, Nat.reduceEqDiff, Nat.reduceLT, ↓reduceIte]) ?_
    exact Hs.refl _) ⟨0, by omega, by omega, rfl⟩ ?_
  rintro z τ ⟨j, hj, rfl, rfl⟩ lp hlp
  have hj3 : j = 0 ∨ j = 1 ∨ j = 2 := by omega
  generalize hH0 : runO nS nT sent to H = HH at *
  rcases hj3 with rfl | rfl | rfl
  · repeat' (first
    | (with_reducible apply W_seq_k; intro nx hnx)
    | (with_reducible first | apply W_block | apply W_scope)
    | (with_reducible refine W_prune 3064992543233415047619612257985451157307474195171508167 ?_; simp only [prb, Nat.reducePow, Nat.reduceDiv, Nat.reduceMod, Nat.reduceBEq]; first | (with_reducible apply W_region_l) | with_reducible refine W_region_draw (id := 29) 3 (.op 0 true (.op 1 true (.op 2 true (.op 3 true (.op 4 true (.op 6 true (.op 7 true (.op 10 true (.alt 5 false (.alt 8 true (.alt 9 true (.op 11 false (.op 12 true (.done))) .stop) .stop) (.alt 8 true (.alt 5 false (.alt 9 true (.op 11 false (.op 12 true (.done))) .stop) (.alt 9 true (.op 5 false (.op 11 false (.op 12 true (.done)))) .stop)) .stop)))))))))) (by kernel_rfl) ?_ | with_reducible refine W_region_draw (id := 15) 3 (.op 0 true (.op 1 true (.op 2 true (.op 3 true (.op 4 true (.op 5 true (.op 6 true (.op 7 true (.op 8 true (.op 9 false (.op 10 true (.done)))))))))))) (by kernel_rfl) ?_ | with_reducible refine W_region_draw (id := 45) 1 (.op 0 true (.op 1 true (.op 2 true (.op 3 true (.op 5 true (.op 6 true (.op 7 true (.op 8 true (.op 9 true (.op 10 true (.op 11 true (.op 12 true (.op 13 true (.op 14 true (.op 15 true (.op 16 true (.op 17 true (.op 18 true (.op 19 true (.op 20 true (.op 4 true (.op 21 true (.op 22 true (.op 23 true (.op 24 true (.op 25 true (.op 26 true (.op 28 true (.op 29 true (.op 30 true (.op 31 true (.op 32 true (.op 33 true (.op 34 true (.op 27 true (.op 35 true (.op 36 true (.done)))))))))))))))))))))))))))))))))))))) (by kernel_rfl) ?_)
    | ((first | (with_reducible apply WL_op; intro nx hnx) | with_reducible refine Ev_out ?_ | (with_reducible apply popsD_op; intro nx hnx) | (with_reducible refine popsD_alt ?_ ?_; intro nx hnx) | (with_reducible refine pfresh_k hnm fun nm hnm => ?_; (try simp only [fmb] at hnm)) | (with_reducible refine pborn_mu hnm fun nm hnm => ?_; (try simp only [fmb] at hnm)) | (with_reducible refine pmaybe_k ?_; intro bn hbn)); try (simp (maxSteps := 2000000) (disch := omega) only [evb, evd, pbuiltin, constPV, pnck, seqK, blockK, scopeK, pbin, pun, ppick, plen, piaddr, pindex, pfield, pslice, pbound, pconv, pelems, pextract, pmm, PV.mem?, PV.one, PV.cells, pageq, peqs, peq1, pmakes, pstore, pbytes, pmark, psrc, pkey, pnile, pcap, pgrow, List.set, Value.cells, ↓popG_eq, ↓pop.eq_1, ↓List.getElem?_map, ↓List.getElem?_cons_zero, ↓List.getElem?_cons_succ, Value.oneCell', Nat.reduceAdd, Nat.reduceMul, Nat.reduceSub, Nat.reduceLeDiff, Nat.reduceEqDiff, ↓reduceIte, ne_eq, reduceCtorEq, forall_const, exists_and_left, exists_eq_left', eq_self, Nat.reduceLT, Int.reduceLT, Int.reduceLE, Int.reduceToNat, Int.reduceAdd, Int.reduceSub, Int.reduceNeg, hnm, Try.tf0, Try.tf1, Try.tf2, Try.tf3, Try.tf4, Try.tf5, Try.tf7, Try.tf22, Try.tf23, Try.tf24, Try.tf26, Try.tf28, Try.tf31, Try.tf32, Try.tf33, Try.tf34, Try.tf35, Try.tf43, Try.tf44, Try.tf65, Try.teq79, Try.call9, Try.call10, Try.call11, Try.call12, Try.call13, Try.call14, Try.call15, Try.call16, Try.call17, Try.call18, Try.call19, Try.call20, Try.call21, Try.call22, Try.call23, k3]); repeat (refine And.intro (by omega) ?_))
    | ((with_reducible first | apply WL_nil | apply W_label | apply W_skip | apply W_exit | apply W_ret | apply popsD_done); try simp only [seqK, blockK, scopeK, ↓reduceIte, Nat.reduceEqDiff])
    | with_reducible exact popsD_stop
    | (with_reducible apply pguard_intro <;> (intro hc; (try simp only [hcb, reduceCtorEq, forall_const, ne_eq] at hc); first | (exfalso; omega) | (exfalso; exact hc trivial) | refine Ev_in ?_))
    | (with_reducible apply W_cond_k; intro _ _ ea eb; (simp only [condK, cob, opnd, constPV, Nat.reduceEqDiff, Nat.reduceLT, ↓reduceIte, hcb, reduceCtorEq, forall_const, ne_eq]); subst ea eb; first | (refine ⟨fun hc => ?_, fun hc => ?_⟩ <;> first | (exfalso; omega) | (exfalso; exact hc trivial) | skip) | skip)
    | (with_reducible apply hnx; clear hnx nx)
    | (with_reducible refine And.intro (by omega) ?_)
    | (with_reducible refine And.intro ?_ ?_)
    | ((refine pcall_look k1 c1 ?_; refine Ev_in ?_))
    | ((refine pcall_look k1 d1 ?_; refine Ev_in ?_))
    | (clear hnx nx; with_reducible apply hnx; clear hnx nx)
    | (clear hnx nx; clear hnx nx; with_reducible apply hnx; clear hnx nx)
    | (clear hnx nx; clear hnx nx; clear hnx nx; with_reducible apply hnx; clear hnx nx))
    all_goals first
      | exact absurd trivial hc
      | (exfalso
         omega)
      | skip
    all_goals
      refine hlp _ 1 ⟨fr 258 ((24, pn 1) :: runL key l a b c d nS nT sent.length to.length i'), HH⟩ (by omega) ?_ ⟨1, by omega, by omega, rfl⟩
      refine At_fr (by simp only [wkb, Nat.reduceEqDiff, Nat.reduceLT, ↓reduceIte, pn]) ?_
      exact Hs.refl _
  · repeat' (first
    | (with_reducible apply W_seq_k; intro nx hnx)
    | (with_reducible first | apply W_block | apply W_scope)
    | (with_reducible refine W_prune 3064992543233415047619612257985451157307474195171508167 ?_; simp only [prb, Nat.reducePow, Nat.reduceDiv, Nat.reduceMod, Nat.reduceBEq]; first | (with_reducible apply W_region_l) | with_reducible refine W_region_draw (id := 29) 3 (.op 0 true (.op 1 true (.op 2 true (.op 3 true (.op 4 true (.op 6 true (.op 7 true (.op 10 true (.alt 5 false (.alt 8 true (.alt 9 true (.op 11 false (.op 12 true (.done))) .stop) .stop) (.alt 8 true (.alt 5 false (.alt 9 true (.op 11 false (.op 12 true (.done))) .stop) (.alt 9 true (.op 5 false (.op 11 false (.op 12 true (.done)))) .stop)) .stop)))))))))) (by kernel_rfl) ?_ | with_reducible refine W_region_draw (id := 15) 3 (.op 0 true (.op 1 true (.op 2 true (.op 3 true (.op 4 true (.op 5 true (.op 6 true (.op 7 true (.op 8 true (.op 9 false (.op 10 true (.done)))))))))))) (by kernel_rfl) ?_ | with_reducible refine W_region_draw (id := 45) 1 (.op 0 true (.op 1 true (.op 2 true (.op 3 true (.op 5 true (.op 6 true (.op 7 true (.op 8 true (.op 9 true (.op 10 true (.op 11 true (.op 12 true (.op 13 true (.op 14 true (.op 15 true (.op 16 true (.op 17 true (.op 18 true (.op 19 true (.op 20 true (.op 4 true (.op 21 true (.op 22 true (.op 23 true (.op 24 true (.op 25 true (.op 26 true (.op 28 true (.op 29 true (.op 30 true (.op 31 true (.op 32 true (.op 33 true (.op 34 true (.op 27 true (.op 35 true (.op 36 true (.done)))))))))))))))))))))))))))))))))))))) (by kernel_rfl) ?_)
    | ((first | (with_reducible apply WL_op; intro nx hnx) | with_reducible refine Ev_out ?_ | (with_reducible apply popsD_op; intro nx hnx) | (with_reducible refine popsD_alt ?_ ?_; intro nx hnx) | (with_reducible refine pfresh_k hnm fun nm hnm => ?_; (try simp only [fmb] at hnm)) | (with_reducible refine pborn_mu hnm fun nm hnm => ?_; (try simp only [fmb] at hnm)) | (with_reducible refine pmaybe_k ?_; intro bn hbn)); try (simp (maxSteps := 2000000) (disch := omega) only [evb, evd, pbuiltin, constPV, pnck, seqK, blockK, scopeK, pbin, pun, ppick, plen, piaddr, pindex, pfield, pslice, pbound, pconv, pelems, pextract, pmm, PV.mem?, PV.one, PV.cells, pageq, peqs, peq1, pmakes, pstore, pbytes, pmark, psrc, pkey, pnile, pcap, pgrow, List.set, Value.cells, ↓popG_eq, ↓pop.eq_1, ↓List.getElem?_map, ↓List.getElem?_cons_zero, ↓List.getElem?_cons_succ, Value.oneCell', Nat.reduceAdd, Nat.reduceMul, Nat.reduceSub, Nat.reduceLeDiff, Nat.reduceEqDiff, ↓reduceIte, ne_eq, reduceCtorEq, forall_const, exists_and_left, exists_eq_left', eq_self, Nat.reduceLT, Int.reduceLT, Int.reduceLE, Int.reduceToNat, Int.reduceAdd, Int.reduceSub, Int.reduceNeg, hnm, Try.tf0, Try.tf1, Try.tf2, Try.tf3, Try.tf4, Try.tf5, Try.tf7, Try.tf22, Try.tf23, Try.tf24, Try.tf26, Try.tf28, Try.tf31, Try.tf32, Try.tf33, Try.tf34, Try.tf35, Try.tf43, Try.tf44, Try.tf65, Try.teq79, Try.call9, Try.call10, Try.call11, Try.call12, Try.call13, Try.call14, Try.call15, Try.call16, Try.call17, Try.call18, Try.call19, Try.call20, Try.call21, Try.call22, Try.call23, k4]); repeat (refine And.intro (by omega) ?_))
    | ((with_reducible first | apply WL_nil | apply W_label | apply W_skip | apply W_exit | apply W_ret | apply popsD_done); try simp only [seqK, blockK, scopeK, ↓reduceIte, Nat.reduceEqDiff])
    | with_reducible exact popsD_stop
    | (with_reducible apply pguard_intro <;> (intro hc; (try simp only [hcb, reduceCtorEq, forall_const, ne_eq] at hc); first | (exfalso; omega) | (exfalso; exact hc trivial) | refine Ev_in ?_))
    | (with_reducible apply W_cond_k; intro _ _ ea eb; (simp only [condK, cob, opnd, constPV, Nat.reduceEqDiff, Nat.reduceLT, ↓reduceIte, hcb, reduceCtorEq, forall_const, ne_eq]); subst ea eb; first | (refine ⟨fun hc => ?_, fun hc => ?_⟩ <;> first | (exfalso; omega) | (exfalso; exact hc trivial) | skip) | skip)
    | (with_reducible apply hnx; clear hnx nx)
    | (with_reducible refine And.intro (by omega) ?_)
    | (with_reducible refine And.intro ?_ ?_)
    | ((refine pcall_look k2 c2 ?_; refine Ev_in ?_))
    | ((refine pcall_look k2 d2 ?_; refine Ev_in ?_))
    | (clear hnx nx; with_reducible apply hnx; clear hnx nx)
    | (clear hnx nx; clear hnx nx; with_reducible apply hnx; clear hnx nx)
    | (clear hnx nx; clear hnx nx; clear hnx nx; with_reducible apply hnx; clear hnx nx))
    all_goals first
      | exact absurd trivial hc
      | (exfalso
         omega)
      | skip
    all_goals
      refine hlp _ 0 ⟨fr 258 ((24, pn 2) :: runL key l a b c d nS nT sent.length to.length i'), HH⟩ (by omega) ?_ ⟨2, by omega, by omega, rfl⟩
      refine At_fr (by simp only [wkb, Nat.reduceEqDiff, Nat.reduceLT, ↓reduceIte, pn]) ?_
      exact Hs.refl _
  · repeat' (first
    | (with_reducible apply W_seq_k; intro nx hnx)
    | (with_reducible first | apply W_block | apply W_scope)
    | (with_reducible refine W_prune 3064992543233415047619612257985451157307474195171508167 ?_; simp only [prb, Nat.reducePow, Nat.reduceDiv, Nat.reduceMod, Nat.reduceBEq]; first | (with_reducible apply W_region_l) | with_reducible refine W_region_draw (id := 29) 3 (.op 0 true (.op 1 true (.op 2 true (.op 3 true (.op 4 true (.op 6 true (.op 7 true (.op 10 true (.alt 5 false (.alt 8 true (.alt 9 true (.op 11 false (.op 12 true (.done))) .stop) .stop) (.alt 8 true (.alt 5 false (.alt 9 true (.op 11 false (.op 12 true (.done))) .stop) (.alt 9 true (.op 5 false (.op 11 false (.op 12 true (.done)))) .stop)) .stop)))))))))) (by kernel_rfl) ?_ | with_reducible refine W_region_draw (id := 15) 3 (.op 0 true (.op 1 true (.op 2 true (.op 3 true (.op 4 true (.op 5 true (.op 6 true (.op 7 true (.op 8 true (.op 9 false (.op 10 true (.done)))))))))))) (by kernel_rfl) ?_ | with_reducible refine W_region_draw (id := 45) 1 (.op 0 true (.op 1 true (.op 2 true (.op 3 true (.op 5 true (.op 6 true (.op 7 true (.op 8 true (.op 9 true (.op 10 true (.op 11 true (.op 12 true (.op 13 true (.op 14 true (.op 15 true (.op 16 true (.op 17 true (.op 18 true (.op 19 true (.op 20 true (.op 4 true (.op 21 true (.op 22 true (.op 23 true (.op 24 true (.op 25 true (.op 26 true (.op 28 true (.op 29 true (.op 30 true (.op 31 true (.op 32 true (.op 33 true (.op 34 true (.op 27 true (.op 35 true (.op 36 true (.done)))))))))))))))))))))))))))))))))))))) (by kernel_rfl) ?_)
    | ((first | (with_reducible apply WL_op; intro nx hnx) | with_reducible refine Ev_out ?_ | (with_reducible apply popsD_op; intro nx hnx) | (with_reducible refine popsD_alt ?_ ?_; intro nx hnx) | (with_reducible refine pfresh_k hnm fun nm hnm => ?_; (try simp only [fmb] at hnm)) | (with_reducible refine pborn_mu hnm fun nm hnm => ?_; (try simp only [fmb] at hnm)) | (with_reducible refine pmaybe_k ?_; intro bn hbn)); try (simp (maxSteps := 2000000) (disch := omega) only [evb, evd, pbuiltin, constPV, pnck, seqK, blockK, scopeK, pbin, pun, ppick, plen, piaddr, pindex, pfield, pslice, pbound, pconv, pelems, pextract, pmm, PV.mem?, PV.one, PV.cells, pageq, peqs, peq1, pmakes, pstore, pbytes, pmark, psrc, pkey, pnile, pcap, pgrow, List.set, Value.cells, ↓popG_eq, ↓pop.eq_1, ↓List.getElem?_map, ↓List.getElem?_cons_zero, ↓List.getElem?_cons_succ, Value.oneCell', Nat.reduceAdd, Nat.reduceMul, Nat.reduceSub, Nat.reduceLeDiff, Nat.reduceEqDiff, ↓reduceIte, ne_eq, reduceCtorEq, forall_const, exists_and_left, exists_eq_left', eq_self, Nat.reduceLT, Int.reduceLT, Int.reduceLE, Int.reduceToNat, Int.reduceAdd, Int.reduceSub, Int.reduceNeg, hnm, Try.tf0, Try.tf1, Try.tf2, Try.tf3, Try.tf4, Try.tf5, Try.tf7, Try.tf22, Try.tf23, Try.tf24, Try.tf26, Try.tf28, Try.tf31, Try.tf32, Try.tf33, Try.tf34, Try.tf35, Try.tf43, Try.tf44, Try.tf65, Try.teq79, Try.call9, Try.call10, Try.call11, Try.call12, Try.call13, Try.call14, Try.call15, Try.call16, Try.call17, Try.call18, Try.call19, Try.call20, Try.call21, Try.call22, Try.call23]); repeat (refine And.intro (by omega) ?_))
    | ((with_reducible first | apply WL_nil | apply W_label | apply W_skip | apply W_exit | apply W_ret | apply popsD_done); try simp only [seqK, blockK, scopeK, ↓reduceIte, Nat.reduceEqDiff])
    | with_reducible exact popsD_stop
    | (with_reducible apply pguard_intro <;> (intro hc; (try simp only [hcb, reduceCtorEq, forall_const, ne_eq] at hc); first | (exfalso; omega) | (exfalso; exact hc trivial) | refine Ev_in ?_))
    | (with_reducible apply W_cond_k; intro _ _ ea eb; (simp only [condK, cob, opnd, constPV, Nat.reduceEqDiff, Nat.reduceLT, ↓reduceIte, hcb, reduceCtorEq, forall_const, ne_eq]); subst ea eb; first | (refine ⟨fun hc => ?_, fun hc => ?_⟩ <;> first | (exfalso; omega) | (exfalso; exact hc trivial) | skip) | skip)
    | (with_reducible apply hnx; clear hnx nx)
    | (with_reducible refine And.intro (by omega) ?_)
    | (with_reducible refine And.intro ?_ ?_)
    | (clear hnx nx; with_reducible apply hnx; clear hnx nx)
    | (clear hnx nx; clear hnx nx; with_reducible apply hnx; clear hnx nx)
    | (clear hnx nx; clear hnx nx; clear hnx nx; with_reducible apply hnx; clear hnx nx))
    all_goals first
      | exact absurd trivial hc
      | (exfalso
         omega)
      | skip
    refine hK _ ?_
    refine At_fr (by simp only [wkb, Nat.reduceEqDiff, Nat.reduceLT, ↓reduceIte]) ?_
    rw [← hH0]
    exact Hs.refl _
end Go.PM

namespace Go.PM
open Go.Proofs
attribute [local irreducible] W PCalls pcall pcallI WL
theorem RunI.up {i j : Nat} {key : UInt64} {ra rb : RE} {sent : List (List UInt8)} {to : List Nat} (h : RunI i key ra rb sent to) (hij : i ≤ j) : RunI j key ra rb sent to :=
  ⟨h.a.up hij, h.b.up hij, by have := h.len; omega, h.tolen, h.pk, h.two⟩
set_option maxRecDepth 100000 in
set_option maxHeartbeats 8000000 in
theorem runs_step (G : Globs) (key : UInt64) (l : List Int) (a b c d nS nT : Int) (sent : List (List UInt8)) (to : List Nat) (i : Nat) (hi : i < 60) (hil : i < l.length) (hx : inR l[i]) (n : Nat) (hn : n < 1073741824) (k : Nat) (hk : k < 2) (ra rb : RE) (H : Heap) (hI : RunI i key ra rb sent to) (hH : RunH a b c d ra rb H)
    (K : Exit → PState → Prop) (hK : ∀ σ' nS' nT' ra' rb' sent' to' H', RunI (i + 1) key ra' rb' sent' to' → RunH a b c d ra' rb' H' → At σ' (runT key l a b c d nS' nT' sent' to' i H') → K .normal σ' ∧ K (.exit 1) σ') :
    W Try.prog G [] (nav (Try.f3.body.getD .skip) [1, 1, 1, 1, 1, 1, 0, 1, 0, 0, 1, 0, 0, 1, 1]) ⟨fr 258 ((13, pn k) :: (12, pn n) :: runL key l a b c d nS nT sent.length to.length i), runO nS nT sent to H⟩ K := by
  have hnm : True := trivial
  have a1 := around_c G l[i] 8 (by omega) (by omega) hx
  have ha := arN_lt l[i] 8 (by omega)
  have a1 : PCalls Try.prog G 10 [pint .i64 l[i], .val (.int .i64 8)] [] _ := a1
  generalize arN l[i] 8 = ch at *
  have chk := fun (ra rb : RE) (sent : List (List UInt8)) (to : List Nat) (nS nT : Int) (H : Heap) (hI : RunI (i + 1) key ra rb sent to) (hH : RunH a b c d ra rb H) => runs_check G key l a b c d nS nT sent to (i + 1) i (by omega) ra rb H hI hH K (fun σ' hat => (hK σ' nS nT ra rb sent to H hI hH hat).1)
  have sd := runs_send G key l a b c d nS nT sent to i hi n k hk ra rb H hI hH
  have ou := runs_out G key l a b c d nS nT sent to i hi n k hk ra rb H hI hH
  have ii := runs_in G key l a b c d nS nT sent to i hi n hn ra rb H hI hH
  have hK1 := fun (σ' : PState) (hat : At σ' (runT key l a b c d nS nT sent to i H)) => (hK σ' nS nT ra rb sent to H (hI.up (Nat.le_succ i)) hH hat).2
  simp only [Try.f3, nav, Option.getD_some] at chk sd ou ii ⊢
  with_reducible apply W_seq_k
  intro nx hnx
  have fin3 : ∀ σ' nS' nT' ra' rb' sent' to' H', RunI (i + 1) key ra' rb' sent' to' → RunH a b c d ra' rb' H' → At σ' (runT key l a b c d nS' nT' sent' to' i H') → nx σ' := fun σ' nS' nT' ra' rb' sent' to' H' hI' hH' hat => hnx σ' (W_at hat (chk ra' rb' sent' to' nS' nT' H' hI' hH'))
  clear chk hnx
  repeat' (first
    | (with_reducible refine W_at ?_ (sd _ ?_))
    | (with_reducible refine W_at ?_ (ou _ ?_))
    | (with_reducible refine W_at ?_ (ii _ ?_ ?_))
    | (with_reducible apply W_seq_k; intro nx hnx)
    | (with_reducible first | apply W_block | apply W_scope)
    | (with_reducible refine W_prune 3064992543233415047619612257985451157307474195171508167 ?_; simp only [prb, Nat.reducePow, Nat.reduceDiv, Nat.reduceMod, Nat.reduceBEq]; first | (with_reducible apply W_region_l) | with_reducible refine W_region_draw (id := 29) 3 (.op 0 true (.op 1 true (.op 2 true (.op 3 true (.op 4 true (.op 6 true (.op 7 true (.op 10 true (.alt 5 false (.alt 8 true (.alt 9 true (.op 11 false (.op 12 true (.done))) .stop) .stop) (.alt 8 true (.alt 5 false (.alt 9 true (.op 11 false (.op 12 true (.done))) .stop) (.alt 9 true (.op 5 false (.op 11 false (.op 12 true (.done)))) .stop)) .stop)))))))))) (by kernel_rfl) ?_ | with_reducible refine W_region_draw (id := 15) 3 (.op 0 true (.op 1 true (.op 2 true (.op 3 true (.op 4 true (.op 5 true (.op 6 true (.op 7 true (.op 8 true (.op 9 false (.op 10 true (.done)))))))))))) (by kernel_rfl) ?_ | with_reducible refine W_region_draw (id := 45) 1 (.op 0 true (.op 1 true (.op 2 true (.op 3 true (.op 5 true (.op 6 true (.op 7 true (.op 8 true (.op 9 true (.op 10 true (.op 11 true (.op 12 true (.op 13 true (.op 14 true (.op 15 true (.op 16 true (.op 17 true (.op 18 true (.op 19 true (.op 20 true (.op 4 true (.op 21 true (.op 22 true (.op 23 true (.op 24 true (.op 25 true (.op 26 true (.op 28 true (.op 29 true (.op 30 true (.op 31 true (.op 32 true (.op 33 true (.op 34 true (.op 27 true (.op 35 true (.op 36 true (.done)))))))))))))))))))))))))))))))))))))) (by kernel_rfl) ?_)
    | ((first | (with_reducible apply WL_op; intro nx hnx) | with_reducible refine Ev_out ?_ | (with_reducible apply popsD_op; intro nx hnx) | (with_reducible refine popsD_alt ?_ ?_; intro nx hnx) | (with_reducible refine pfresh_k hnm fun nm hnm => ?_; (try simp only [fmb] at hnm)) | (with_reducible refine pborn_mu hnm fun nm hnm => ?_; (try simp only [fmb] at hnm)) | (with_reducible refine pmaybe_k ?_; intro bn hbn)); try (simp (maxSteps := 2000000) (disch := omega) only [evb, evd, pbuiltin, constPV, pnck, seqK, blockK, scopeK, pbin, pun, ppick, plen, piaddr, pindex, pfield, pslice, pbound, pconv, pelems, pextract, pmm, PV.mem?, PV.one, PV.cells, pageq, peqs, peq1, pmakes, pstore, pbytes, pmark, psrc, pkey, pnile, pcap, pgrow, List.set, Value.cells, ↓popG_eq, ↓pop.eq_1, ↓List.getElem?_map, ↓List.getElem?_cons_zero, ↓List.getElem?_cons_succ, Value.oneCell', Nat.reduceAdd, Nat.reduceMul, Nat.reduceSub, Nat.reduceLeDiff, Nat.reduceEqDiff, ↓reduceIte, ne_eq, reduceCtorEq, forall_const, exists_and_left, exists_eq_left', eq_self, Nat.reduceLT, Int.reduceLT, Int.reduceLE, Int.reduceToNat, Int.reduceAdd, Int.reduceSub, Int.reduceNeg, hnm, Try.tf0, Try.tf1, Try.tf2, Try.tf3, Try.tf4, Try.tf5, Try.tf7, Try.tf22, Try.tf23, Try.tf24, Try.tf26, Try.tf28, Try.tf31, Try.tf32, Try.tf33, Try.tf34, Try.tf35, Try.tf43, Try.tf44, Try.tf65, Try.teq79, Try.call9, Try.call10, Try.call11, Try.call12, Try.call13, Try.call14, Try.call15, Try.call16, Try.call17, Try.call18, Try.call19, Try.call20, Try.call21, Try.call22, Try.call23]); repeat (refine And.intro (by omega) ?_))
    | ((with_reducible first | apply WL_nil | apply W_label | apply W_skip | apply W_exit | apply W_ret | apply popsD_done); try simp only [seqK, blockK, scopeK, ↓reduceIte, Nat.reduceEqDiff])
    | with_reducible exact popsD_stop
    | (with_reducible apply pguard_intro <;> (intro hc; (try simp only [hcb, reduceCtorEq, forall_const, ne_eq] at hc); first | (exfalso; omega) | (exfalso; exact hc trivial) | refine Ev_in ?_))
    | (with_reducible apply W_cond_k; intro _ _ ea eb; (simp only [condK, cob, opnd, constPV, Nat.reduceEqDiff, Nat.reduceLT, ↓reduceIte, hcb, reduceCtorEq, forall_const, ne_eq]); subst ea eb; first | (refine ⟨fun hc => ?_, fun hc => ?_⟩ <;> first | (exfalso; omega) | (exfalso; exact hc trivial) | skip) | skip)
    | (with_reducible apply hnx; clear hnx nx)
    | (with_reducible refine And.intro (by omega) ?_)
    | (with_reducible refine And.intro ?_ ?_)
    | (with_reducible refine pcall_k (a1) ?_; rintro _ _ ⟨rfl, rfl⟩ -; refine Ev_in ?_)
    | (clear hnx nx; with_reducible apply hnx; clear hnx nx)
    | (clear hnx nx; clear hnx nx; with_reducible apply hnx; clear hnx nx)
    | (clear hnx nx; clear hnx nx; clear hnx nx; with_reducible apply hnx; clear hnx nx))
  all_goals first
    | (refine At_fr (by simp only [wkb, Nat.reduceEqDiff, Nat.reduceLT, ↓reduceIte]) ?_
       exact Hs.refl _)
    | (intro σ' ra' rb' H' q1 q2 q3
       exact fin3 _ _ _ _ _ _ _ _ q1 q2 q3)
    | (intro σ' nS' nT' ra' rb' sent' to' H' q1 q2 q3
       exact fin3 _ _ _ _ _ _ _ _ q1 q2 q3)
    | (intro σ' hat
       simp only [blockK, seqK, Nat.reduceEqDiff, ↓reduceIte]
       exact hK1 σ' hat)
end Go.PM

namespace Go.PM
open Go.Proofs
theorem inR_tdiv {x : Int} (h : inR x) (m : Int) (hm : 1 ≤ m) : inR (x.tdiv m) := by
  obtain ⟨h3, h4⟩ := h
  constructor
  · rcases Int.le_total 0 x with h | h
    · have := Int.tdiv_nonneg h (show (0 : Int) ≤ m by omega)
      omega
    · obtain ⟨w, rfl⟩ : ∃ w : Int, x = -w := ⟨-x, by omega⟩
      rw [Int.neg_tdiv]
      have := Int.tdiv_le_self (b := m) (show 0 ≤ w by omega)
      omega
  · rcases Int.le_total 0 x with h | h
    · have := Int.tdiv_le_self (b := m) h
      omega
    · obtain ⟨w, rfl⟩ : ∃ w : Int, x = -w := ⟨-x, by omega⟩
      rw [Int.neg_tdiv]
      have := Int.tdiv_nonneg (show 0 ≤ w by omega) (show (0 : Int) ≤ m by omega)
      omega
def newR (win : Nat) (key : UInt64) : RE := ⟨win, key, [], 0, 0, [], false, 0⟩
theorem newR_run (win : Nat) (key : UInt64) (h : win ≤ 16) : RunE 0 key (newR win key) :=
  ⟨rfl, h, by simp [newR], by simp [newR], by simp [newR], by simp [newR], rfl, by simp [newR], by simp [newR]⟩
attribute [local irreducible] W PCalls pcall pcallI WL
section
variable {P : Program} {G : Globs} {I : List Int} {code : Code} {K : Exit → PState → Prop} {F : List PV} {B : Heap}
/-- A new reference's end. -/
theorem W_newref {c : Int} {win : Nat} {key : UInt64} (h : ∀ Rc, IsRef c (newR win key) Rc → W P G I code ⟨F, Rc ++ B⟩ K) :
    W P G I code ⟨F, (c, ⟨31, false, 0, [pint .i64 win, pq key, pnil, pint .i64 0, pint .i64 0, pnil, pbool false, pint .i64 0]⟩) :: B⟩ K := by
  refine W_adopt_c c 2 33 1 (o := ⟨31, false, 0, [pint .i64 win, pq key, pnil, pint .i64 0, pint .i64 0, pnil, pbool false, pint .i64 0]⟩) (by simp only [look, if_true]) rfl fun w hw => ?_
  have hcw : ¬ w = c := fun e => hw (by simp [names, e])
  refine W_adopt_c c 5 78 2 (o := ⟨31, false, 0, [pint .i64 win, pq key, .row w 1 0, pint .i64 0, pint .i64 0, pnil, pbool false, pint .i64 0]⟩) (by simp only [look, upd, if_neg hcw, if_true, List.set]) rfl fun m hm => ?_
  refine W_at (τ := ⟨F, refO c w m (newR win key) ++ B⟩) ⟨wkF_refl _, Hs.perm ?_⟩ (h _ ⟨w, m, rfl⟩)
  simp only [upd, if_neg hcw, if_true, List.set, refO, newR, List.map_nil, List.length_nil, heldC, List.flatMap_nil, List.cons_append, List.nil_append]
  refine (List.perm_middle (l₁ := [_, _])).trans ?_
  refine List.Perm.cons _ ?_
  exact List.Perm.swap _ _ _
end
set_option maxRecDepth 100000 in
set_option maxHeartbeats 8000000 in
theorem law3 (G : Globs) (window : Int) (hw : inR window) (key : UInt64) (l : List Int) (hl : (l.length : Int) ≤ 9223372036854775807) (hr : ∀ x ∈ l, inR x) :
    PCalls Try.prog G 3 [pint .i64 window, pq key, .list 1 (l.map (pint .i64))] [] (fun res H => res = pbool true ∧ H = []) := by
  have en := ends_c G window key hw
  have hq := inR_tdiv hw 16 (by omega)
  have c1 := around_c G window 16 (by omega) (by omega) hw
  have c2 := around_c G (window.tdiv 16) 16 (by omega) (by omega) hq
  have hwr : IntKind.i64.wrap (window.tdiv 16) = window.tdiv 16 := wr64 _ hq.1 hq.2
  have h1 := arN_lt window 16 (by omega)
  have h2 := arN_lt (window.tdiv 16) 16 (by omega)
  have e1 : (1 : Int) + (arN window 16 : Nat) = (winA window : Nat) := by rw [winA]; omega
  have e2 : (1 : Int) + (arN (window.tdiv 16) 16 : Nat) = (winB window : Nat) := by rw [winB]; omega
  have h3 : winA window ≤ 16 := by rw [winA]; omega
  have h4 : winB window ≤ 16 := by rw [winB]; omega
  have lv := lives_c G
  generalize winA window = wa at *
  generalize winB window = wb at *
  generalize arN window 16 = ka at *
  generalize arN (window.tdiv 16) 16 = kb at *
  have c1 : PCalls Try.prog G 10 [pint .i64 window, .val (.int .i64 16)] [] _ := c1
  have c2 : PCalls Try.prog G 10 [pint .i64 (window.tdiv 16), .val (.int .i64 16)] [] _ := c2
  (refine PCalls_f Try.func3 rfl Try.ntmps3 Try.results3 (by simp) fun fin hfin => ?_; have hnm : True := trivial; simp (maxSteps := 2000000) (disch := omega) only [evb, evd, pbuiltin, constPV, pnck, seqK, blockK, scopeK, pbin, pun, ppick, plen, piaddr, pindex, pfield, pslice, pbound, pconv, pelems, pextract, pmm, PV.mem?, PV.one, PV.cells, pageq, peqs, peq1, pmakes, pstore, pbytes, pmark, psrc, pkey, pnile, pcap, pgrow, List.set, Value.cells, ↓popG_eq, ↓pop.eq_1, ↓List.getElem?_map, ↓List.getElem?_cons_zero, ↓List.getElem?_cons_succ, Value.oneCell', Nat.reduceAdd, Nat.reduceMul, Nat.reduceSub, Nat.reduceLeDiff, Nat.reduceEqDiff, ↓reduceIte, ne_eq, reduceCtorEq, forall_const, exists_and_left, exists_eq_left', eq_self, Nat.reduceLT, Int.reduceLT, Int.reduceLE, Int.reduceToNat, Int.reduceAdd, Int.reduceSub, Int.reduceNeg, hnm, Try.tf0, Try.tf1, Try.tf2, Try.tf3, Try.tf4, Try.tf5, Try.tf7, Try.tf22, Try.tf23, Try.tf24, Try.tf26, Try.tf28, Try.tf31, Try.tf32, Try.tf33, Try.tf34, Try.tf35, Try.tf43, Try.tf44, Try.tf65, Try.teq79, Try.call9, Try.call10, Try.call11, Try.call12, Try.call13, Try.call14, Try.call15, Try.call16, Try.call17, Try.call18, Try.call19, Try.call20, Try.call21, Try.call22, Try.call23])
  repeat' (first
    | (with_reducible apply W_seq_k; intro nx hnx)
    | (with_reducible first | apply W_block | apply W_scope)
    | (with_reducible refine W_prune 3064992543233415047619612257985451157307474195171508167 ?_; simp only [prb, Nat.reducePow, Nat.reduceDiv, Nat.reduceMod, Nat.reduceBEq]; first | (with_reducible apply W_region_l) | with_reducible refine W_region_draw (id := 29) 3 (.op 0 true (.op 1 true (.op 2 true (.op 3 true (.op 4 true (.op 6 true (.op 7 true (.op 10 true (.alt 5 false (.alt 8 true (.alt 9 true (.op 11 false (.op 12 true (.done))) .stop) .stop) (.alt 8 true (.alt 5 false (.alt 9 true (.op 11 false (.op 12 true (.done))) .stop) (.alt 9 true (.op 5 false (.op 11 false (.op 12 true (.done)))) .stop)) .stop)))))))))) (by kernel_rfl) ?_ | with_reducible refine W_region_draw (id := 15) 3 (.op 0 true (.op 1 true (.op 2 true (.op 3 true (.op 4 true (.op 5 true (.op 6 true (.op 7 true (.op 8 true (.op 9 false (.op 10 true (.done)))))))))))) (by kernel_rfl) ?_ | with_reducible refine W_region_draw (id := 45) 1 (.op 0 true (.op 1 true (.op 2 true (.op 3 true (.op 5 true (.op 6 true (.op 7 true (.op 8 true (.op 9 true (.op 10 true (.op 11 true (.op 12 true (.op 13 true (.op 14 true (.op 15 true (.op 16 true (.op 17 true (.op 18 true (.op 19 true (.op 20 true (.op 4 true (.op 21 true (.op 22 true (.op 23 true (.op 24 true (.op 25 true (.op 26 true (.op 28 true (.op 29 true (.op 30 true (.op 31 true (.op 32 true (.op 33 true (.op 34 true (.op 27 true (.op 35 true (.op 36 true (.done)))))))))))))))))))))))))))))))))))))) (by kernel_rfl) ?_)
    | (with_reducible refine WL_born (by simp) rfl (by simp) ?_; simp only [elemsOf, nl, List.map_cons, List.map_nil, Nat.reduceEqDiff, ↓reduceIte, List.take_succ_cons, List.take_zero, List.range_succ, List.range_zero, List.nil_append, List.cons_append, List.map_append, List.drop_succ_cons, List.drop_zero, Nat.reduceMul, Nat.zero_mul, Nat.one_mul, Nat.reduceAdd])
    | ((first | (with_reducible apply WL_op; intro nx hnx) | with_reducible refine Ev_out ?_ | (with_reducible apply popsD_op; intro nx hnx) | (with_reducible refine popsD_alt ?_ ?_; intro nx hnx) | (with_reducible refine pfresh_k hnm fun nm hnm => ?_; (try simp only [fmb] at hnm)) | (with_reducible refine pborn_im ?_; simp only [elemsOf, nl, List.map_cons, List.map_nil, Nat.reduceEqDiff, ↓reduceIte, List.take_succ_cons, List.take_zero, List.range_succ, List.range_zero, List.nil_append, List.cons_append, List.map_append, List.drop_succ_cons, List.drop_zero, Nat.reduceMul, Nat.zero_mul, Nat.one_mul, Nat.reduceAdd]) | (with_reducible refine pmaybe_k ?_; intro bn hbn)); try (simp (maxSteps := 2000000) (disch := omega) only [evb, evd, pbuiltin, constPV, pnck, seqK, blockK, scopeK, pbin, pun, ppick, plen, piaddr, pindex, pfield, pslice, pbound, pconv, pelems, pextract, pmm, PV.mem?, PV.one, PV.cells, pageq, peqs, peq1, pmakes, pstore, pbytes, pmark, psrc, pkey, pnile, pcap, pgrow, List.set, Value.cells, ↓popG_eq, ↓pop.eq_1, ↓List.getElem?_map, ↓List.getElem?_cons_zero, ↓List.getElem?_cons_succ, Value.oneCell', Nat.reduceAdd, Nat.reduceMul, Nat.reduceSub, Nat.reduceLeDiff, Nat.reduceEqDiff, ↓reduceIte, ne_eq, reduceCtorEq, forall_const, exists_and_left, exists_eq_left', eq_self, Nat.reduceLT, Int.reduceLT, Int.reduceLE, Int.reduceToNat, Int.reduceAdd, Int.reduceSub, Int.reduceNeg, hnm, Try.tf0, Try.tf1, Try.tf2, Try.tf3, Try.tf4, Try.tf5, Try.tf7, Try.tf22, Try.tf23, Try.tf24, Try.tf26, Try.tf28, Try.tf31, Try.tf32, Try.tf33, Try.tf34, Try.tf35, Try.tf43, Try.tf44, Try.tf65, Try.teq79, Try.call9, Try.call10, Try.call11, Try.call12, Try.call13, Try.call14, Try.call15, Try.call16, Try.call17, Try.call18, Try.call19, Try.call20, Try.call21, Try.call22, Try.call23, hwr, e1, e2]); repeat (refine And.intro (by omega) ?_))
    | ((with_reducible first | apply WL_nil | apply W_label | apply W_skip | apply W_exit | apply W_ret | apply popsD_done); try simp only [seqK, blockK, scopeK, ↓reduceIte, Nat.reduceEqDiff])
    | with_reducible exact popsD_stop
    | (with_reducible apply pguard_intro <;> (intro hc; (try simp only [hcb, reduceCtorEq, forall_const, ne_eq] at hc); first | (exfalso; omega) | (exfalso; exact hc trivial) | refine Ev_in ?_))
    | (with_reducible apply W_cond_k; intro _ _ ea eb; (simp only [condK, cob, opnd, constPV, Nat.reduceEqDiff, Nat.reduceLT, ↓reduceIte, hcb, reduceCtorEq, forall_const, ne_eq]); subst ea eb; first | (refine ⟨fun hc => ?_, fun hc => ?_⟩ <;> first | (exfalso; omega) | (exfalso; exact hc trivial) | skip) | skip)
    | (with_reducible apply hnx; clear hnx nx)
    | (with_reducible refine And.intro (by omega) ?_)
    | (with_reducible refine And.intro ?_ ?_)
    | (with_reducible refine pcall_k (c1) ?_; rintro _ _ ⟨rfl, rfl⟩ -; refine Ev_in ?_)
    | (with_reducible refine pcall_k (c2) ?_; rintro _ _ ⟨rfl, rfl⟩ -; refine Ev_in ?_)
    | ((refine pcall_k en ?_; rintro _ _ ⟨b, a, Hb, Ha, rfl, rfl, hEb, hEa⟩ -; refine Ev_in ?_))
    | (clear hnx nx; with_reducible apply hnx; clear hnx nx)
    | (clear hnx nx; clear hnx nx; with_reducible apply hnx; clear hnx nx)
    | (clear hnx nx; clear hnx nx; clear hnx nx; with_reducible apply hnx; clear hnx nx))
  all_goals first
    | exact absurd trivial hc
    | (have hx := hbn trivial
       rw [hc] at hx
       cases hx)
    | skip
  rename_i c hnc
  refine W_newref (c := nm) (win := wb) (key := key) fun Rb hRb => ?_
  refine W_at (τ := ⟨fr 258 [(11, pint .i64 0), (10, pnil), (9, pnil), (8, .list 1 [.ptr c 0, .ptr nm 0]), (7, .list 1 [.ptr a 0, .ptr b 0]), (1, pq key), (2, .list 1 (l.map (pint .i64)))],
    (c, ⟨31, false, 0, [pint .i64 wa, pq key, pnil, pint .i64 0, pint .i64 0, pnil, pbool false, pint .i64 0]⟩) :: (Rb ++ (Hb ++ Ha))⟩) (by
    refine At_fr (by simp only [wkb, Nat.reduceEqDiff, Nat.reduceLT, ↓reduceIte]) ?_
    exact Hs.perm List.perm_middle) ?_
  refine W_newref (c := c) (win := wa) (key := key) fun Ra hRa => ?_
  refine W_adopt_f 9 33 1 (by simp only [fr_getD_cons, Nat.reduceEqDiff, Nat.reduceLT, ↓reduceIte]) fun nS hS => ?_
  refine W_adopt_f 10 3 1 (by simp only [fr_getD_cons, Nat.reduceEqDiff, Nat.reduceLT, ↓reduceIte]) fun nT hT => ?_
  clear hS hT hnm
  have hnm : True := trivial
  refine W_loop_at (fun z τ => ∃ (i : Nat) (ra rb : RE) (sent : List (List UInt8)) (to : List Nat) (nS nT : Int) (H : Heap), i ≤ 60 ∧ i ≤ l.length ∧ z = 60 - i ∧ RunI i key ra rb sent to ∧ RunH a b c nm ra rb H ∧ τ = runT key l a b c nm nS nT sent to i H) 60
    (runT key l a b c nm nS nT [] [] 0 (Ra ++ (Rb ++ (Hb ++ Ha)))) (by
    refine At_fr (by simp only [wkb, Nat.reduceEqDiff, Nat.reduceLT, ↓reduceIte, List.length_nil, pn]) ?_
    exact Hs.refl _) ⟨0, newR wa key, newR wb key, [], [], nS, nT, _, by omega, by omega, by omega, ⟨newR_run _ _ h3, newR_run _ _ h4, by simp, rfl, by simp, by simp⟩, ⟨Ra, Rb, Ha, Hb, rfl, hRa, hRb, hEa, hEb⟩, rfl⟩ ?_
  clear hRa hRb hEa hEb
  rintro z τ ⟨i, ra, rb, sent, to, nS, nT, H, hi, hil, rfl, hI, hH, rfl⟩ lp hlp
  by_cases hx : i < 60 ∧ i < l.length
  · obtain ⟨hx1, hx2⟩ := hx
    have hxr := hr l[i] (List.getElem_mem hx2)
    have hqx := inR_tdiv hxr 8 (by omega)
    have b1 := around_c G (l[i].tdiv 8) 1073741824 (by omega) (by omega) hqx
    have hn := arN_lt (l[i].tdiv 8) 1073741824 (by omega)
    have b1 : PCalls Try.prog G 10 [pint .i64 (l[i].tdiv 8), .val (.int .i64 1073741824)] [] _ := b1
    have hwx : IntKind.i64.wrap (l[i].tdiv 8) = l[i].tdiv 8 := wr64 _ hqx.1 hqx.2
    generalize arN (l[i].tdiv 8) 1073741824 = n at *
    have r2 : Int.tmod (n : Int) 2 = ((n % 2 : Nat) : Int) := (Int.ofNat_tmod n 2).symm
    have hk : n % 2 < 2 := Nat.mod_lt _ (by omega)
    obtain ⟨k, hke⟩ : ∃ k, k = n % 2 := ⟨_, rfl⟩
    rw [← hke] at r2 hk
    have st := fun K hK => runs_step G key l a b c nm nS nT sent to i hx1 hx2 hxr n hn k hk ra rb H hI hH K hK
    simp only [Try.f3, nav, Option.getD_some] at st
    repeat' (first
    | (with_reducible refine W_at ?_ (st _ ?_))
    | (with_reducible apply W_seq_k; intro nx hnx)
    | (with_reducible first | apply W_block | apply W_scope)
    | (with_reducible refine W_prune 3064992543233415047619612257985451157307474195171508167 ?_; simp only [prb, Nat.reducePow, Nat.reduceDiv, Nat.reduceMod, Nat.reduceBEq]; first | (with_reducible apply W_region_l) | with_reducible refine W_region_draw (id := 29) 3 (.op 0 true (.op 1 true (.op 2 true (.op 3 true (.op 4 true (.op 6 true (.op 7 true (.op 10 true (.alt 5 false (.alt 8 true (.alt 9 true (.op 11 false (.op 12 true (.done))) .stop) .stop) (.alt 8 true (.alt 5 false (.alt 9 true (.op 11 false (.op 12 true (.done))) .stop) (.alt 9 true (.op 5 false (.op 11 false (.op 12 true (.done)))) .stop)) .stop)))))))))) (by kernel_rfl) ?_ | with_reducible refine W_region_draw (id := 15) 3 (.op 0 true (.op 1 true (.op 2 true (.op 3 true (.op 4 true (.op 5 true (.op 6 true (.op 7 true (.op 8 true (.op 9 false (.op 10 true (.done)))))))))))) (by kernel_rfl) ?_ | with_reducible refine W_region_draw (id := 45) 1 (.op 0 true (.op 1 true (.op 2 true (.op 3 true (.op 5 true (.op 6 true (.op 7 true (.op 8 true (.op 9 true (.op 10 true (.op 11 true (.op 12 true (.op 13 true (.op 14 true (.op 15 true (.op 16 true (.op 17 true (.op 18 true (.op 19 true (.op 20 true (.op 4 true (.op 21 true (.op 22 true (.op 23 true (.op 24 true (.op 25 true (.op 26 true (.op 28 true (.op 29 true (.op 30 true (.op 31 true (.op 32 true (.op 33 true (.op 34 true (.op 27 true (.op 35 true (.op 36 true (.done)))))))))))))))))))))))))))))))))))))) (by kernel_rfl) ?_)
    | ((first | (with_reducible apply WL_op; intro nx hnx) | with_reducible refine Ev_out ?_ | (with_reducible apply popsD_op; intro nx hnx) | (with_reducible refine popsD_alt ?_ ?_; intro nx hnx) | (with_reducible refine pfresh_k hnm fun nm hnm => ?_; (try simp only [fmb] at hnm)) | (with_reducible refine pborn_mu hnm fun nm hnm => ?_; (try simp only [fmb] at hnm)) | (with_reducible refine pmaybe_k ?_; intro bn hbn)); try (simp (maxSteps := 2000000) (disch := omega) only [evb, evd, pbuiltin, constPV, pnck, seqK, blockK, scopeK, pbin, pun, ppick, plen, piaddr, pindex, pfield, pslice, pbound, pconv, pelems, pextract, pmm, PV.mem?, PV.one, PV.cells, pageq, peqs, peq1, pmakes, pstore, pbytes, pmark, psrc, pkey, pnile, pcap, pgrow, List.set, Value.cells, ↓popG_eq, ↓pop.eq_1, ↓List.getElem?_map, ↓List.getElem?_cons_zero, ↓List.getElem?_cons_succ, Value.oneCell', Nat.reduceAdd, Nat.reduceMul, Nat.reduceSub, Nat.reduceLeDiff, Nat.reduceEqDiff, ↓reduceIte, ne_eq, reduceCtorEq, forall_const, exists_and_left, exists_eq_left', eq_self, Nat.reduceLT, Int.reduceLT, Int.reduceLE, Int.reduceToNat, Int.reduceAdd, Int.reduceSub, Int.reduceNeg, hnm, Try.tf0, Try.tf1, Try.tf2, Try.tf3, Try.tf4, Try.tf5, Try.tf7, Try.tf22, Try.tf23, Try.tf24, Try.tf26, Try.tf28, Try.tf31, Try.tf32, Try.tf33, Try.tf34, Try.tf35, Try.tf43, Try.tf44, Try.tf65, Try.teq79, Try.call9, Try.call10, Try.call11, Try.call12, Try.call13, Try.call14, Try.call15, Try.call16, Try.call17, Try.call18, Try.call19, Try.call20, Try.call21, Try.call22, Try.call23, hwx, r2]); repeat (refine And.intro (by omega) ?_))
    | ((with_reducible first | apply WL_nil | apply W_label | apply W_skip | apply W_exit | apply W_ret | apply popsD_done); try simp only [seqK, blockK, scopeK, ↓reduceIte, Nat.reduceEqDiff])
    | with_reducible exact popsD_stop
    | (with_reducible apply pguard_intro <;> (intro hc; (try simp only [hcb, reduceCtorEq, forall_const, ne_eq] at hc); first | (exfalso; omega) | (exfalso; exact hc trivial) | refine Ev_in ?_))
    | (with_reducible apply W_cond_k; intro _ _ ea eb; (simp only [condK, cob, opnd, constPV, Nat.reduceEqDiff, Nat.reduceLT, ↓reduceIte, hcb, reduceCtorEq, forall_const, ne_eq]); subst ea eb; first | (refine ⟨fun hc => ?_, fun hc => ?_⟩ <;> first | (exfalso; omega) | (exfalso; exact hc trivial) | skip) | skip)
    | (with_reducible apply hnx; clear hnx nx)
    | (with_reducible refine And.intro (by omega) ?_)
    | (with_reducible refine And.intro ?_ ?_)
    | (with_reducible refine pcall_k (b1) ?_; rintro _ _ ⟨rfl, rfl⟩ -; refine Ev_in ?_)
    | (clear hnx nx; with_reducible apply hnx; clear hnx nx)
    | (clear hnx nx; clear hnx nx; with_reducible apply hnx; clear hnx nx)
    | (clear hnx nx; clear hnx nx; clear hnx nx; with_reducible apply hnx; clear hnx nx))
    all_goals first
      | exact absurd trivial hc
      | (exfalso
         omega)
      | (refine At_fr (by simp only [wkb, Nat.reduceEqDiff, Nat.reduceLT, ↓reduceIte]) ?_
         exact Hs.refl _)
      | skip
    intro σ' nS' nT' ra' rb' sent' to' H' q1 q2 hat
    have f9 : nx σ' := by
      refine hnx σ' (W_at hat ?_)
      clear hnx st
      repeat' (first
    | (with_reducible apply W_seq_k; intro nx hnx)
    | (with_reducible first | apply W_block | apply W_scope)
    | (with_reducible refine W_prune 3064992543233415047619612257985451157307474195171508167 ?_; simp only [prb, Nat.reducePow, Nat.reduceDiv, Nat.reduceMod, Nat.reduceBEq]; first | (with_reducible apply W_region_l) | with_reducible refine W_region_draw (id := 29) 3 (.op 0 true (.op 1 true (.op 2 true (.op 3 true (.op 4 true (.op 6 true (.op 7 true (.op 10 true (.alt 5 false (.alt 8 true (.alt 9 true (.op 11 false (.op 12 true (.done))) .stop) .stop) (.alt 8 true (.alt 5 false (.alt 9 true (.op 11 false (.op 12 true (.done))) .stop) (.alt 9 true (.op 5 false (.op 11 false (.op 12 true (.done)))) .stop)) .stop)))))))))) (by kernel_rfl) ?_ | with_reducible refine W_region_draw (id := 15) 3 (.op 0 true (.op 1 true (.op 2 true (.op 3 true (.op 4 true (.op 5 true (.op 6 true (.op 7 true (.op 8 true (.op 9 false (.op 10 true (.done)))))))))))) (by kernel_rfl) ?_ | with_reducible refine W_region_draw (id := 45) 1 (.op 0 true (.op 1 true (.op 2 true (.op 3 true (.op 5 true (.op 6 true (.op 7 true (.op 8 true (.op 9 true (.op 10 true (.op 11 true (.op 12 true (.op 13 true (.op 14 true (.op 15 true (.op 16 true (.op 17 true (.op 18 true (.op 19 true (.op 20 true (.op 4 true (.op 21 true (.op 22 true (.op 23 true (.op 24 true (.op 25 true (.op 26 true (.op 28 true (.op 29 true (.op 30 true (.op 31 true (.op 32 true (.op 33 true (.op 34 true (.op 27 true (.op 35 true (.op 36 true (.done)))))))))))))))))))))))))))))))))))))) (by kernel_rfl) ?_)
    | ((first | (with_reducible apply WL_op; intro nx hnx) | with_reducible refine Ev_out ?_ | (with_reducible apply popsD_op; intro nx hnx) | (with_reducible refine popsD_alt ?_ ?_; intro nx hnx) | (with_reducible refine pfresh_k hnm fun nm hnm => ?_; (try simp only [fmb] at hnm)) | (with_reducible refine pborn_mu hnm fun nm hnm => ?_; (try simp only [fmb] at hnm)) | (with_reducible refine pmaybe_k ?_; intro bn hbn)); try (simp (maxSteps := 2000000) (disch := omega) only [evb, evd, pbuiltin, constPV, pnck, seqK, blockK, scopeK, pbin, pun, ppick, plen, piaddr, pindex, pfield, pslice, pbound, pconv, pelems, pextract, pmm, PV.mem?, PV.one, PV.cells, pageq, peqs, peq1, pmakes, pstore, pbytes, pmark, psrc, pkey, pnile, pcap, pgrow, List.set, Value.cells, ↓popG_eq, ↓pop.eq_1, ↓List.getElem?_map, ↓List.getElem?_cons_zero, ↓List.getElem?_cons_succ, Value.oneCell', Nat.reduceAdd, Nat.reduceMul, Nat.reduceSub, Nat.reduceLeDiff, Nat.reduceEqDiff, ↓reduceIte, ne_eq, reduceCtorEq, forall_const, exists_and_left, exists_eq_left', eq_self, Nat.reduceLT, Int.reduceLT, Int.reduceLE, Int.reduceToNat, Int.reduceAdd, Int.reduceSub, Int.reduceNeg, hnm, Try.tf0, Try.tf1, Try.tf2, Try.tf3, Try.tf4, Try.tf5, Try.tf7, Try.tf22, Try.tf23, Try.tf24, Try.tf26, Try.tf28, Try.tf31, Try.tf32, Try.tf33, Try.tf34, Try.tf35, Try.tf43, Try.tf44, Try.tf65, Try.teq79, Try.call9, Try.call10, Try.call11, Try.call12, Try.call13, Try.call14, Try.call15, Try.call16, Try.call17, Try.call18, Try.call19, Try.call20, Try.call21, Try.call22, Try.call23]); repeat (refine And.intro (by omega) ?_))
    | ((with_reducible first | apply WL_nil | apply W_label | apply W_skip | apply W_exit | apply W_ret | apply popsD_done); try simp only [seqK, blockK, scopeK, ↓reduceIte, Nat.reduceEqDiff])
    | with_reducible exact popsD_stop
    | (with_reducible apply pguard_intro <;> (intro hc; (try simp only [hcb, reduceCtorEq, forall_const, ne_eq] at hc); first | (exfalso; omega) | (exfalso; exact hc trivial) | refine Ev_in ?_))
    | (with_reducible apply W_cond_k; intro _ _ ea eb; (simp only [condK, cob, opnd, constPV, Nat.reduceEqDiff, Nat.reduceLT, ↓reduceIte, hcb, reduceCtorEq, forall_const, ne_eq]); subst ea eb; first | (refine ⟨fun hc => ?_, fun hc => ?_⟩ <;> first | (exfalso; omega) | (exfalso; exact hc trivial) | skip) | skip)
    | (with_reducible apply hnx; clear hnx nx)
    | (with_reducible refine And.intro (by omega) ?_)
    | (with_reducible refine And.intro ?_ ?_)
    | (clear hnx nx; with_reducible apply hnx; clear hnx nx)
    | (clear hnx nx; clear hnx nx; with_reducible apply hnx; clear hnx nx)
    | (clear hnx nx; clear hnx nx; clear hnx nx; with_reducible apply hnx; clear hnx nx))
      refine hlp _ (60 - (i + 1)) _ (by omega) ?_ ⟨i + 1, ra', rb', sent', to', nS', nT', H', by omega, by omega, rfl, q1, q2, rfl⟩
      refine At_fr (by simp only [wkb, Nat.reduceEqDiff, Nat.reduceLT, ↓reduceIte, pn]) ?_
      exact Hs.refl _
    simp only [blockK, seqK, ↓reduceIte]
    exact ⟨f9, f9⟩
  · repeat' (first
    | (with_reducible apply W_seq_k; intro nx hnx)
    | (with_reducible first | apply W_block | apply W_scope)
    | (with_reducible refine W_prune 3064992543233415047619612257985451157307474195171508167 ?_; simp only [prb, Nat.reducePow, Nat.reduceDiv, Nat.reduceMod, Nat.reduceBEq]; first | (with_reducible apply W_region_l) | with_reducible refine W_region_draw (id := 29) 3 (.op 0 true (.op 1 true (.op 2 true (.op 3 true (.op 4 true (.op 6 true (.op 7 true (.op 10 true (.alt 5 false (.alt 8 true (.alt 9 true (.op 11 false (.op 12 true (.done))) .stop) .stop) (.alt 8 true (.alt 5 false (.alt 9 true (.op 11 false (.op 12 true (.done))) .stop) (.alt 9 true (.op 5 false (.op 11 false (.op 12 true (.done)))) .stop)) .stop)))))))))) (by kernel_rfl) ?_ | with_reducible refine W_region_draw (id := 15) 3 (.op 0 true (.op 1 true (.op 2 true (.op 3 true (.op 4 true (.op 5 true (.op 6 true (.op 7 true (.op 8 true (.op 9 false (.op 10 true (.done)))))))))))) (by kernel_rfl) ?_ | with_reducible refine W_region_draw (id := 45) 1 (.op 0 true (.op 1 true (.op 2 true (.op 3 true (.op 5 true (.op 6 true (.op 7 true (.op 8 true (.op 9 true (.op 10 true (.op 11 true (.op 12 true (.op 13 true (.op 14 true (.op 15 true (.op 16 true (.op 17 true (.op 18 true (.op 19 true (.op 20 true (.op 4 true (.op 21 true (.op 22 true (.op 23 true (.op 24 true (.op 25 true (.op 26 true (.op 28 true (.op 29 true (.op 30 true (.op 31 true (.op 32 true (.op 33 true (.op 34 true (.op 27 true (.op 35 true (.op 36 true (.done)))))))))))))))))))))))))))))))))))))) (by kernel_rfl) ?_)
    | ((first | (with_reducible apply WL_op; intro nx hnx) | with_reducible refine Ev_out ?_ | (with_reducible apply popsD_op; intro nx hnx) | (with_reducible refine popsD_alt ?_ ?_; intro nx hnx) | (with_reducible refine pfresh_k hnm fun nm hnm => ?_; (try simp only [fmb] at hnm)) | (with_reducible refine pborn_mu hnm fun nm hnm => ?_; (try simp only [fmb] at hnm)) | (with_reducible refine pmaybe_k ?_; intro bn hbn)); try (simp (maxSteps := 2000000) (disch := omega) only [evb, evd, pbuiltin, constPV, pnck, seqK, blockK, scopeK, pbin, pun, ppick, plen, piaddr, pindex, pfield, pslice, pbound, pconv, pelems, pextract, pmm, PV.mem?, PV.one, PV.cells, pageq, peqs, peq1, pmakes, pstore, pbytes, pmark, psrc, pkey, pnile, pcap, pgrow, List.set, Value.cells, ↓popG_eq, ↓pop.eq_1, ↓List.getElem?_map, ↓List.getElem?_cons_zero, ↓List.getElem?_cons_succ, Value.oneCell', Nat.reduceAdd, Nat.reduceMul, Nat.reduceSub, Nat.reduceLeDiff, Nat.reduceEqDiff, ↓reduceIte, ne_eq, reduceCtorEq, forall_const, exists_and_left, exists_eq_left', eq_self, Nat.reduceLT, Int.reduceLT, Int.reduceLE, Int.reduceToNat, Int.reduceAdd, Int.reduceSub, Int.reduceNeg, hnm, Try.tf0, Try.tf1, Try.tf2, Try.tf3, Try.tf4, Try.tf5, Try.tf7, Try.tf22, Try.tf23, Try.tf24, Try.tf26, Try.tf28, Try.tf31, Try.tf32, Try.tf33, Try.tf34, Try.tf35, Try.tf43, Try.tf44, Try.tf65, Try.teq79, Try.call9, Try.call10, Try.call11, Try.call12, Try.call13, Try.call14, Try.call15, Try.call16, Try.call17, Try.call18, Try.call19, Try.call20, Try.call21, Try.call22, Try.call23]); repeat (refine And.intro (by omega) ?_))
    | ((with_reducible first | apply WL_nil | apply W_label | apply W_skip | apply W_exit | apply W_ret | apply popsD_done); try simp only [seqK, blockK, scopeK, ↓reduceIte, Nat.reduceEqDiff])
    | with_reducible exact popsD_stop
    | (with_reducible apply pguard_intro <;> (intro hc; (try simp only [hcb, reduceCtorEq, forall_const, ne_eq] at hc); first | (exfalso; omega) | (exfalso; exact hc trivial) | refine Ev_in ?_))
    | (with_reducible apply W_cond_k; intro _ _ ea eb; (simp only [condK, cob, opnd, constPV, Nat.reduceEqDiff, Nat.reduceLT, ↓reduceIte, hcb, reduceCtorEq, forall_const, ne_eq]); subst ea eb; first | (refine ⟨fun hc => ?_, fun hc => ?_⟩ <;> first | (exfalso; omega) | (exfalso; exact hc trivial) | skip) | skip)
    | (with_reducible apply hnx; clear hnx nx)
    | (with_reducible refine And.intro (by omega) ?_)
    | (with_reducible refine And.intro ?_ ?_)
    | (with_reducible refine pcall_k (lv) ?_; rintro _ _ ⟨rfl, rfl⟩ -; refine Ev_in ?_)
    | (clear hnx nx; with_reducible apply hnx; clear hnx nx)
    | (clear hnx nx; clear hnx nx; with_reducible apply hnx; clear hnx nx)
    | (clear hnx nx; clear hnx nx; clear hnx nx; with_reducible apply hnx; clear hnx nx))
    all_goals first
      | exact absurd trivial hc
      | (exfalso
         omega)
      | (refine hfin _ _ (Fin_ret1 rfl (Sub_nil _) ?_); simp only [List.getD_cons_zero, List.getD_cons_succ, fr_getD_cons, fr_getD_nil, Nat.reduceEqDiff, Nat.reduceLT, ↓reduceIte]; first | trivial | exact ⟨rfl, by trivial⟩ | (simp; done) | (simp; omega))
end Go.PM
