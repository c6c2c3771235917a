/- Joined texts (Oh): the machine, the contracts, the laws. Conditions: none but those that each names. -/
import Derived.Test.YtmnfkfikhcjeaaaJe
set_option linter.unusedSimpArgs false
set_option linter.unusedVariables false
namespace Go.PM
open Go.Proofs
attribute [local irreducible] W PCalls pcall pcallI WL
set_option maxRecDepth 100000 in
set_option maxHeartbeats 8000000 in
theorem prog_round (G : Globs) (key : UInt64) (a b nG : Int) (m0 m1 n i : Nat) (hi : i ≤ 40000) (hm0 : m0 ≤ 31) (hm1 : m1 ≤ 31) (sa sb : LE) (hI : ProI i n key (msgN m0) (msgN m1) sa sb) (Ha Hb : Heap) (hA : IsEnd a sa Ha) (hB : IsEnd b sb Hb)
    (K : Exit → PState → Prop) (hK : ∀ σ' sa sb Ha Hb, ProI (i + 32) (n + 1) key (msgN m0) (msgN m1) sa sb → IsEnd a sa Ha → IsEnd b sb Hb → At σ' ⟨fr 176 (proL a b nG m0 m1 n), proO nG sa.got sb.got (Hb ++ Ha)⟩ → K .normal σ') :
    W Try.prog G [] (nav (Try.f6.body.getD .skip) [1, 1, 1, 1, 1, 1, 1, 0, 1, 0, 0, 1, 0, 0]) ⟨fr 176 (proL a b nG m0 m1 n), proO nG sa.got sb.got (Hb ++ Ha)⟩ K := by
  have hnm : True := trivial
  simp only [Try.f6, nav, Option.getD_some]
  repeat' (first
    | (with_reducible apply W_seq_k; intro nx hnx)
    | (with_reducible first | apply W_block | apply W_scope)
    | (with_reducible refine W_prune 16776223 ?_; simp only [prb, Nat.reducePow, Nat.reduceDiv, Nat.reduceMod, Nat.reduceBEq]; first | (with_reducible apply W_region_l) | with_reducible refine W_region_draw (id := 19) 1 (.op 0 true (.op 1 true (.op 2 true (.op 3 true (.op 4 true (.op 5 true (.op 6 true (.op 7 true (.op 8 true (.done)))))))))) (by kernel_rfl) ?_ | with_reducible refine W_region_draw (id := 28) 3 (.op 0 true (.op 1 true (.op 2 true (.op 3 true (.op 4 true (.op 5 true (.op 6 true (.op 7 true (.op 8 true (.op 9 false (.op 10 true (.op 11 true (.op 12 true (.op 13 true (.op 14 true (.done)))))))))))))))) (by kernel_rfl) ?_ | with_reducible refine W_region_draw (id := 34) 1 (.op 0 true (.op 1 true (.op 2 true (.op 3 true (.op 4 true (.op 5 true (.op 6 true (.op 7 true (.op 8 true (.op 9 true (.op 10 true (.op 11 true (.op 12 true (.op 13 true (.op 14 true (.op 15 true (.op 16 true (.op 17 true (.op 18 true (.op 19 true (.op 20 true (.done)))))))))))))))))))))) (by kernel_rfl) ?_ | with_reducible refine W_region_draw (id := 37) 9 (.op 0 true (.op 1 true (.op 2 true (.op 3 true (.op 4 true (.op 5 true (.op 6 true (.op 7 true (.op 8 true (.op 9 true (.op 10 true (.op 11 true (.op 12 true (.op 13 true (.op 14 true (.op 15 true (.op 16 true (.op 17 true (.op 18 true (.op 19 true (.op 20 false (.op 21 true (.op 22 true (.op 23 true (.op 24 true (.op 25 true (.op 26 true (.op 27 false (.op 28 true (.op 29 true (.op 30 true (.op 31 false (.op 32 true (.op 33 true (.done))))))))))))))))))))))))))))))))))) (by kernel_rfl) ?_)
    | ((first | (with_reducible apply WL_op; intro nx hnx) | with_reducible refine Ev_out ?_ | (with_reducible apply popsD_op; intro nx hnx) | (with_reducible refine popsD_alt ?_ ?_; intro nx hnx) | (with_reducible refine pfresh_k hnm fun nm hnm => ?_; (try simp only [fmb] at hnm)) | (with_reducible refine pborn_mu hnm fun nm hnm => ?_; (try simp only [fmb] at hnm)) | (with_reducible refine pmaybe_k ?_; intro bn hbn)); try (simp (maxSteps := 2000000) (disch := omega) only [evb, evd, pbuiltin, constPV, pnck, seqK, blockK, scopeK, pbin, pun, ppick, plen, piaddr, pindex, pfield, pslice, pbound, pconv, pelems, pextract, pmm, PV.mem?, PV.one, PV.cells, pageq, peqs, peq1, pmakes, pstore, pbytes, pmark, psrc, pkey, pnile, pcap, pgrow, List.set, Value.cells, ↓popG_eq, ↓pop.eq_1, ↓List.getElem?_map, ↓List.getElem?_cons_zero, ↓List.getElem?_cons_succ, Value.oneCell', Nat.reduceAdd, Nat.reduceMul, Nat.reduceSub, Nat.reduceLeDiff, Nat.reduceEqDiff, ↓reduceIte, ne_eq, reduceCtorEq, forall_const, exists_and_left, exists_eq_left', eq_self, Nat.reduceLT, Int.reduceLT, Int.reduceLE, Int.reduceToNat, Int.reduceAdd, Int.reduceSub, Int.reduceNeg, hnm, Try.tf0, Try.tf1, Try.tf2, Try.tf3, Try.tf4, Try.tf5, Try.tf22, Try.tf23, Try.tf24, Try.tf28, Try.tf33, Try.tf34, Try.tf35, Try.tf44, Try.tf65, Try.teq79, Try.call9, Try.call10, Try.call11, Try.call13, Try.call19, Try.call21, Try.call23]); repeat (refine And.intro (by omega) ?_))
    | ((with_reducible first | apply WL_nil | apply W_label | apply W_skip | apply W_exit | apply W_ret | apply popsD_done); try simp only [seqK, blockK, scopeK, ↓reduceIte, Nat.reduceEqDiff])
    | with_reducible exact popsD_stop
    | (with_reducible apply pguard_intro <;> (intro hc; (try simp only [hcb, reduceCtorEq, forall_const, ne_eq] at hc); first | (exfalso; omega) | (exfalso; exact hc trivial) | refine Ev_in ?_))
    | (with_reducible apply W_cond_k; intro _ _ ea eb; (simp only [condK, cob, opnd, constPV, Nat.reduceEqDiff, Nat.reduceLT, ↓reduceIte, hcb, reduceCtorEq, forall_const, ne_eq]); subst ea eb; first | (refine ⟨fun hc => ?_, fun hc => ?_⟩ <;> first | (exfalso; omega) | (exfalso; exact hc trivial) | skip) | skip)
    | (with_reducible apply hnx; clear hnx nx)
    | (with_reducible refine And.intro (by omega) ?_)
    | (with_reducible refine And.intro ?_ ?_)
    | (clear hnx nx; with_reducible apply hnx; clear hnx nx)
    | (clear hnx nx; clear hnx nx; with_reducible apply hnx; clear hnx nx)
    | (clear hnx nx; clear hnx nx; clear hnx nx; with_reducible apply hnx; clear hnx nx))
  refine W_loop_at (fun z τ => ∃ (sa sb : LE) (Ha Hb : Heap), IsEnd a sa Ha ∧ IsEnd b sb Hb ∧
      ((z = 2 ∧ ProI i n key (msgN m0) (msgN m1) sa sb ∧ τ = ⟨fr 176 ((18, pn 0) :: proL a b nG m0 m1 n), proO nG sa.got sb.got (Hb ++ Ha)⟩) ∨
       (z = 1 ∧ MidI (i + 16) n key (msgN m0) (msgN m1) sa sb ∧ τ = ⟨fr 176 ((18, pn 1) :: proL a b nG m0 m1 n), proO nG sa.got sb.got (Hb ++ Ha)⟩) ∨
       (z = 0 ∧ ProI (i + 32) (n + 1) key (msgN m0) (msgN m1) sa sb ∧ τ = ⟨fr 176 ((18, pn 2) :: proL a b nG m0 m1 n), proO nG sa.got sb.got (Hb ++ Ha)⟩))) 2
    ⟨fr 176 ((18, pn 0) :: proL a b nG m0 m1 n), proO nG sa.got sb.got (Hb ++ Ha)⟩ (by
    refine At_fr (by simp only [wkb, Nat.reduceEqDiff, Nat.reduceLT, ↓reduceIte, pn]) ?_
    exact Hs.refl _) ⟨sa, sb, Ha, Hb, hA, hB, .inl ⟨rfl, hI, rfl⟩⟩ ?_
  clear hI hA hB
  rintro z τ ⟨sa, sb, Ha, Hb, hA, hB, ⟨rfl, hI, rfl⟩ | ⟨rfl, hI, rfl⟩ | ⟨rfl, hI, rfl⟩⟩ lp hlp
  · have c1 := out_c G a sa (hI.oa.okE (by omega)) (by have := hI.oa.win; omega) hI.oa.wmsgs Ha hA
    have pk := fun Ha K hK => prog_pk0 G key a b nG m0 m1 n i (by omega) hm0 hm1 sa sb hI.oa hI.ob hI.hb sa.got Ha Hb hB K hK
    simp only [Try.f6, nav, Option.getD_some] at pk
    repeat' (first
    | (with_reducible refine W_at ?_ (pk Ha' _ ?_))
    | (with_reducible apply W_seq_k; intro nx hnx)
    | (with_reducible first | apply W_block | apply W_scope)
    | (with_reducible refine W_prune 16776223 ?_; simp only [prb, Nat.reducePow, Nat.reduceDiv, Nat.reduceMod, Nat.reduceBEq]; first | (with_reducible apply W_region_l) | with_reducible refine W_region_draw (id := 19) 1 (.op 0 true (.op 1 true (.op 2 true (.op 3 true (.op 4 true (.op 5 true (.op 6 true (.op 7 true (.op 8 true (.done)))))))))) (by kernel_rfl) ?_ | with_reducible refine W_region_draw (id := 28) 3 (.op 0 true (.op 1 true (.op 2 true (.op 3 true (.op 4 true (.op 5 true (.op 6 true (.op 7 true (.op 8 true (.op 9 false (.op 10 true (.op 11 true (.op 12 true (.op 13 true (.op 14 true (.done)))))))))))))))) (by kernel_rfl) ?_ | with_reducible refine W_region_draw (id := 34) 1 (.op 0 true (.op 1 true (.op 2 true (.op 3 true (.op 4 true (.op 5 true (.op 6 true (.op 7 true (.op 8 true (.op 9 true (.op 10 true (.op 11 true (.op 12 true (.op 13 true (.op 14 true (.op 15 true (.op 16 true (.op 17 true (.op 18 true (.op 19 true (.op 20 true (.done)))))))))))))))))))))) (by kernel_rfl) ?_ | with_reducible refine W_region_draw (id := 37) 9 (.op 0 true (.op 1 true (.op 2 true (.op 3 true (.op 4 true (.op 5 true (.op 6 true (.op 7 true (.op 8 true (.op 9 true (.op 10 true (.op 11 true (.op 12 true (.op 13 true (.op 14 true (.op 15 true (.op 16 true (.op 17 true (.op 18 true (.op 19 true (.op 20 false (.op 21 true (.op 22 true (.op 23 true (.op 24 true (.op 25 true (.op 26 true (.op 27 false (.op 28 true (.op 29 true (.op 30 true (.op 31 false (.op 32 true (.op 33 true (.done))))))))))))))))))))))))))))))))))) (by kernel_rfl) ?_)
    | ((first | (with_reducible apply WL_op; intro nx hnx) | with_reducible refine Ev_out ?_ | (with_reducible apply popsD_op; intro nx hnx) | (with_reducible refine popsD_alt ?_ ?_; intro nx hnx) | (with_reducible refine pfresh_k hnm fun nm hnm => ?_; (try simp only [fmb] at hnm)) | (with_reducible refine pborn_mu hnm fun nm hnm => ?_; (try simp only [fmb] at hnm)) | (with_reducible refine pmaybe_k ?_; intro bn hbn)); try (simp (maxSteps := 2000000) (disch := omega) only [evb, evd, pbuiltin, constPV, pnck, seqK, blockK, scopeK, pbin, pun, ppick, plen, piaddr, pindex, pfield, pslice, pbound, pconv, pelems, pextract, pmm, PV.mem?, PV.one, PV.cells, pageq, peqs, peq1, pmakes, pstore, pbytes, pmark, psrc, pkey, pnile, pcap, pgrow, List.set, Value.cells, ↓popG_eq, ↓pop.eq_1, ↓List.getElem?_map, ↓List.getElem?_cons_zero, ↓List.getElem?_cons_succ, Value.oneCell', Nat.reduceAdd, Nat.reduceMul, Nat.reduceSub, Nat.reduceLeDiff, Nat.reduceEqDiff, ↓reduceIte, ne_eq, reduceCtorEq, forall_const, exists_and_left, exists_eq_left', eq_self, Nat.reduceLT, Int.reduceLT, Int.reduceLE, Int.reduceToNat, Int.reduceAdd, Int.reduceSub, Int.reduceNeg, hnm, Try.tf0, Try.tf1, Try.tf2, Try.tf3, Try.tf4, Try.tf5, Try.tf22, Try.tf23, Try.tf24, Try.tf28, Try.tf33, Try.tf34, Try.tf35, Try.tf44, Try.tf65, Try.teq79, Try.call9, Try.call10, Try.call11, Try.call13, Try.call19, Try.call21, Try.call23]); repeat (refine And.intro (by omega) ?_))
    | ((with_reducible first | apply WL_nil | apply W_label | apply W_skip | apply W_exit | apply W_ret | apply popsD_done); try simp only [seqK, blockK, scopeK, ↓reduceIte, Nat.reduceEqDiff])
    | with_reducible exact popsD_stop
    | (with_reducible apply pguard_intro <;> (intro hc; (try simp only [hcb, reduceCtorEq, forall_const, ne_eq] at hc); first | (exfalso; omega) | (exfalso; exact hc trivial) | refine Ev_in ?_))
    | (with_reducible apply W_cond_k; intro _ _ ea eb; (simp only [condK, cob, opnd, constPV, Nat.reduceEqDiff, Nat.reduceLT, ↓reduceIte, hcb, reduceCtorEq, forall_const, ne_eq]); subst ea eb; first | (refine ⟨fun hc => ?_, fun hc => ?_⟩ <;> first | (exfalso; omega) | (exfalso; exact hc trivial) | skip) | skip)
    | (with_reducible apply hnx; clear hnx nx)
    | (with_reducible refine And.intro (by omega) ?_)
    | (with_reducible refine And.intro ?_ ?_)
    | (((with_reducible refine pcall_xa c1 ?_); rintro _ Ha' ⟨rfl, hA'⟩; refine Ev_in ?_))
    | (clear hnx nx; with_reducible apply hnx; clear hnx nx)
    | (clear hnx nx; clear hnx nx; with_reducible apply hnx; clear hnx nx)
    | (clear hnx nx; clear hnx nx; clear hnx nx; with_reducible apply hnx; clear hnx nx))
    all_goals first
      | exact absurd trivial hc
      | (exfalso
         omega)
      | (refine At_fr (by simp only [wkb, Nat.reduceEqDiff, Nat.reduceLT, ↓reduceIte]) ?_
         exact Hs.refl _)
      | skip
    intro σ' rj Hb' hJ hB' hat
    refine hnx σ' (W_at hat ?_)
    clear hnx pk
    repeat' (first
    | (with_reducible apply W_seq_k; intro nx hnx)
    | (with_reducible first | apply W_block | apply W_scope)
    | (with_reducible refine W_prune 16776223 ?_; simp only [prb, Nat.reducePow, Nat.reduceDiv, Nat.reduceMod, Nat.reduceBEq]; first | (with_reducible apply W_region_l) | with_reducible refine W_region_draw (id := 19) 1 (.op 0 true (.op 1 true (.op 2 true (.op 3 true (.op 4 true (.op 5 true (.op 6 true (.op 7 true (.op 8 true (.done)))))))))) (by kernel_rfl) ?_ | with_reducible refine W_region_draw (id := 28) 3 (.op 0 true (.op 1 true (.op 2 true (.op 3 true (.op 4 true (.op 5 true (.op 6 true (.op 7 true (.op 8 true (.op 9 false (.op 10 true (.op 11 true (.op 12 true (.op 13 true (.op 14 true (.done)))))))))))))))) (by kernel_rfl) ?_ | with_reducible refine W_region_draw (id := 34) 1 (.op 0 true (.op 1 true (.op 2 true (.op 3 true (.op 4 true (.op 5 true (.op 6 true (.op 7 true (.op 8 true (.op 9 true (.op 10 true (.op 11 true (.op 12 true (.op 13 true (.op 14 true (.op 15 true (.op 16 true (.op 17 true (.op 18 true (.op 19 true (.op 20 true (.done)))))))))))))))))))))) (by kernel_rfl) ?_ | with_reducible refine W_region_draw (id := 37) 9 (.op 0 true (.op 1 true (.op 2 true (.op 3 true (.op 4 true (.op 5 true (.op 6 true (.op 7 true (.op 8 true (.op 9 true (.op 10 true (.op 11 true (.op 12 true (.op 13 true (.op 14 true (.op 15 true (.op 16 true (.op 17 true (.op 18 true (.op 19 true (.op 20 false (.op 21 true (.op 22 true (.op 23 true (.op 24 true (.op 25 true (.op 26 true (.op 27 false (.op 28 true (.op 29 true (.op 30 true (.op 31 false (.op 32 true (.op 33 true (.done))))))))))))))))))))))))))))))))))) (by kernel_rfl) ?_)
    | ((first | (with_reducible apply WL_op; intro nx hnx) | with_reducible refine Ev_out ?_ | (with_reducible apply popsD_op; intro nx hnx) | (with_reducible refine popsD_alt ?_ ?_; intro nx hnx) | (with_reducible refine pfresh_k hnm fun nm hnm => ?_; (try simp only [fmb] at hnm)) | (with_reducible refine pborn_mu hnm fun nm hnm => ?_; (try simp only [fmb] at hnm)) | (with_reducible refine pmaybe_k ?_; intro bn hbn)); try (simp (maxSteps := 2000000) (disch := omega) only [evb, evd, pbuiltin, constPV, pnck, seqK, blockK, scopeK, pbin, pun, ppick, plen, piaddr, pindex, pfield, pslice, pbound, pconv, pelems, pextract, pmm, PV.mem?, PV.one, PV.cells, pageq, peqs, peq1, pmakes, pstore, pbytes, pmark, psrc, pkey, pnile, pcap, pgrow, List.set, Value.cells, ↓popG_eq, ↓pop.eq_1, ↓List.getElem?_map, ↓List.getElem?_cons_zero, ↓List.getElem?_cons_succ, Value.oneCell', Nat.reduceAdd, Nat.reduceMul, Nat.reduceSub, Nat.reduceLeDiff, Nat.reduceEqDiff, ↓reduceIte, ne_eq, reduceCtorEq, forall_const, exists_and_left, exists_eq_left', eq_self, Nat.reduceLT, Int.reduceLT, Int.reduceLE, Int.reduceToNat, Int.reduceAdd, Int.reduceSub, Int.reduceNeg, hnm, Try.tf0, Try.tf1, Try.tf2, Try.tf3, Try.tf4, Try.tf5, Try.tf22, Try.tf23, Try.tf24, Try.tf28, Try.tf33, Try.tf34, Try.tf35, Try.tf44, Try.tf65, Try.teq79, Try.call9, Try.call10, Try.call11, Try.call13, Try.call19, Try.call21, Try.call23]); repeat (refine And.intro (by omega) ?_))
    | ((with_reducible first | apply WL_nil | apply W_label | apply W_skip | apply W_exit | apply W_ret | apply popsD_done); try simp only [seqK, blockK, scopeK, ↓reduceIte, Nat.reduceEqDiff])
    | with_reducible exact popsD_stop
    | (with_reducible apply pguard_intro <;> (intro hc; (try simp only [hcb, reduceCtorEq, forall_const, ne_eq] at hc); first | (exfalso; omega) | (exfalso; exact hc trivial) | refine Ev_in ?_))
    | (with_reducible apply W_cond_k; intro _ _ ea eb; (simp only [condK, cob, opnd, constPV, Nat.reduceEqDiff, Nat.reduceLT, ↓reduceIte, hcb, reduceCtorEq, forall_const, ne_eq]); subst ea eb; first | (refine ⟨fun hc => ?_, fun hc => ?_⟩ <;> first | (exfalso; omega) | (exfalso; exact hc trivial) | skip) | skip)
    | (with_reducible apply hnx; clear hnx nx)
    | (with_reducible refine And.intro (by omega) ?_)
    | (with_reducible refine And.intro ?_ ?_)
    | (clear hnx nx; with_reducible apply hnx; clear hnx nx)
    | (clear hnx nx; clear hnx nx; with_reducible apply hnx; clear hnx nx)
    | (clear hnx nx; clear hnx nx; clear hnx nx; with_reducible apply hnx; clear hnx nx))
    refine hlp _ 1 ⟨fr 176 ((18, pn 1) :: proL a b nG m0 m1 n), proO nG sa.got rj.got (Hb' ++ Ha')⟩ (by omega) ?_ ⟨(outL sa).2, rj, Ha', Hb', hA', hB', .inr (.inl ⟨rfl, hI.half hJ, rfl⟩)⟩
    refine At_fr (by simp only [wkb, Nat.reduceEqDiff, Nat.reduceLT, ↓reduceIte, pn]) ?_
    exact Hs.refl _
  · have c1 := out_c G b sb (hI.ob.okE (by omega)) (by have := hI.ob.win; omega) hI.ob.wmsgs Hb hB
    have pk := fun Hb K hK => prog_pk1 G key a b nG m0 m1 n (i + 16) (by omega) hm0 hm1 sb sa hI.ob hI.oa hI.ha sb.got Ha Hb hA K hK
    simp only [Try.f6, nav, Option.getD_some] at pk
    repeat' (first
    | (with_reducible refine W_at ?_ (pk Hb' _ ?_))
    | (with_reducible apply W_seq_k; intro nx hnx)
    | (with_reducible first | apply W_block | apply W_scope)
    | (with_reducible refine W_prune 16776223 ?_; simp only [prb, Nat.reducePow, Nat.reduceDiv, Nat.reduceMod, Nat.reduceBEq]; first | (with_reducible apply W_region_l) | with_reducible refine W_region_draw (id := 19) 1 (.op 0 true (.op 1 true (.op 2 true (.op 3 true (.op 4 true (.op 5 true (.op 6 true (.op 7 true (.op 8 true (.done)))))))))) (by kernel_rfl) ?_ | with_reducible refine W_region_draw (id := 28) 3 (.op 0 true (.op 1 true (.op 2 true (.op 3 true (.op 4 true (.op 5 true (.op 6 true (.op 7 true (.op 8 true (.op 9 false (.op 10 true (.op 11 true (.op 12 true (.op 13 true (.op 14 true (.done)))))))))))))))) (by kernel_rfl) ?_ | with_reducible refine W_region_draw (id := 34) 1 (.op 0 true (.op 1 true (.op 2 true (.op 3 true (.op 4 true (.op 5 true (.op 6 true (.op 7 true (.op 8 true (.op 9 true (.op 10 true (.op 11 true (.op 12 true (.op 13 true (.op 14 true (.op 15 true (.op 16 true (.op 17 true (.op 18 true (.op 19 true (.op 20 true (.done)))))))))))))))))))))) (by kernel_rfl) ?_ | with_reducible refine W_region_draw (id := 37) 9 (.op 0 true (.op 1 true (.op 2 true (.op 3 true (.op 4 true (.op 5 true (.op 6 true (.op 7 true (.op 8 true (.op 9 true (.op 10 true (.op 11 true (.op 12 true (.op 13 true (.op 14 true (.op 15 true (.op 16 true (.op 17 true (.op 18 true (.op 19 true (.op 20 false (.op 21 true (.op 22 true (.op 23 true (.op 24 true (.op 25 true (.op 26 true (.op 27 false (.op 28 true (.op 29 true (.op 30 true (.op 31 false (.op 32 true (.op 33 true (.done))))))))))))))))))))))))))))))))))) (by kernel_rfl) ?_)
    | ((first | (with_reducible apply WL_op; intro nx hnx) | with_reducible refine Ev_out ?_ | (with_reducible apply popsD_op; intro nx hnx) | (with_reducible refine popsD_alt ?_ ?_; intro nx hnx) | (with_reducible refine pfresh_k hnm fun nm hnm => ?_; (try simp only [fmb] at hnm)) | (with_reducible refine pborn_mu hnm fun nm hnm => ?_; (try simp only [fmb] at hnm)) | (with_reducible refine pmaybe_k ?_; intro bn hbn)); try (simp (maxSteps := 2000000) (disch := omega) only [evb, evd, pbuiltin, constPV, pnck, seqK, blockK, scopeK, pbin, pun, ppick, plen, piaddr, pindex, pfield, pslice, pbound, pconv, pelems, pextract, pmm, PV.mem?, PV.one, PV.cells, pageq, peqs, peq1, pmakes, pstore, pbytes, pmark, psrc, pkey, pnile, pcap, pgrow, List.set, Value.cells, ↓popG_eq, ↓pop.eq_1, ↓List.getElem?_map, ↓List.getElem?_cons_zero, ↓List.getElem?_cons_succ, Value.oneCell', Nat.reduceAdd, Nat.reduceMul, Nat.reduceSub, Nat.reduceLeDiff, Nat.reduceEqDiff, ↓reduceIte, ne_eq, reduceCtorEq, forall_const, exists_and_left, exists_eq_left', eq_self, Nat.reduceLT, Int.reduceLT, Int.reduceLE, Int.reduceToNat, Int.reduceAdd, Int.reduceSub, Int.reduceNeg, hnm, Try.tf0, Try.tf1, Try.tf2, Try.tf3, Try.tf4, Try.tf5, Try.tf22, Try.tf23, Try.tf24, Try.tf28, Try.tf33, Try.tf34, Try.tf35, Try.tf44, Try.tf65, Try.teq79, Try.call9, Try.call10, Try.call11, Try.call13, Try.call19, Try.call21, Try.call23]); repeat (refine And.intro (by omega) ?_))
    | ((with_reducible first | apply WL_nil | apply W_label | apply W_skip | apply W_exit | apply W_ret | apply popsD_done); try simp only [seqK, blockK, scopeK, ↓reduceIte, Nat.reduceEqDiff])
    | with_reducible exact popsD_stop
    | (with_reducible apply pguard_intro <;> (intro hc; (try simp only [hcb, reduceCtorEq, forall_const, ne_eq] at hc); first | (exfalso; omega) | (exfalso; exact hc trivial) | refine Ev_in ?_))
    | (with_reducible apply W_cond_k; intro _ _ ea eb; (simp only [condK, cob, opnd, constPV, Nat.reduceEqDiff, Nat.reduceLT, ↓reduceIte, hcb, reduceCtorEq, forall_const, ne_eq]); subst ea eb; first | (refine ⟨fun hc => ?_, fun hc => ?_⟩ <;> first | (exfalso; omega) | (exfalso; exact hc trivial) | skip) | skip)
    | (with_reducible apply hnx; clear hnx nx)
    | (with_reducible refine And.intro (by omega) ?_)
    | (with_reducible refine And.intro ?_ ?_)
    | (((with_reducible refine pcall_xb c1 ?_); rintro _ Hb' ⟨rfl, hB'⟩; refine Ev_in ?_))
    | (clear hnx nx; with_reducible apply hnx; clear hnx nx)
    | (clear hnx nx; clear hnx nx; with_reducible apply hnx; clear hnx nx)
    | (clear hnx nx; clear hnx nx; clear hnx nx; with_reducible apply hnx; clear hnx nx))
    all_goals first
      | exact absurd trivial hc
      | (exfalso
         omega)
      | (refine At_fr (by simp only [wkb, Nat.reduceEqDiff, Nat.reduceLT, ↓reduceIte]) ?_
         exact Hs.refl _)
      | skip
    intro σ' rj Ha' hJ hA' hat
    refine hnx σ' (W_at hat ?_)
    clear hnx pk
    repeat' (first
    | (with_reducible apply W_seq_k; intro nx hnx)
    | (with_reducible first | apply W_block | apply W_scope)
    | (with_reducible refine W_prune 16776223 ?_; simp only [prb, Nat.reducePow, Nat.reduceDiv, Nat.reduceMod, Nat.reduceBEq]; first | (with_reducible apply W_region_l) | with_reducible refine W_region_draw (id := 19) 1 (.op 0 true (.op 1 true (.op 2 true (.op 3 true (.op 4 true (.op 5 true (.op 6 true (.op 7 true (.op 8 true (.done)))))))))) (by kernel_rfl) ?_ | with_reducible refine W_region_draw (id := 28) 3 (.op 0 true (.op 1 true (.op 2 true (.op 3 true (.op 4 true (.op 5 true (.op 6 true (.op 7 true (.op 8 true (.op 9 false (.op 10 true (.op 11 true (.op 12 true (.op 13 true (.op 14 true (.done)))))))))))))))) (by kernel_rfl) ?_ | with_reducible refine W_region_draw (id := 34) 1 (.op 0 true (.op 1 true (.op 2 true (.op 3 true (.op 4 true (.op 5 true (.op 6 true (.op 7 true (.op 8 true (.op 9 true (.op 10 true (.op 11 true (.op 12 true (.op 13 true (.op 14 true (.op 15 true (.op 16 true (.op 17 true (.op 18 true (.op 19 true (.op 20 true (.done)))))))))))))))))))))) (by kernel_rfl) ?_ | with_reducible refine W_region_draw (id := 37) 9 (.op 0 true (.op 1 true (.op 2 true (.op 3 true (.op 4 true (.op 5 true (.op 6 true (.op 7 true (.op 8 true (.op 9 true (.op 10 true (.op 11 true (.op 12 true (.op 13 true (.op 14 true (.op 15 true (.op 16 true (.op 17 true (.op 18 true (.op 19 true (.op 20 false (.op 21 true (.op 22 true (.op 23 true (.op 24 true (.op 25 true (.op 26 true (.op 27 false (.op 28 true (.op 29 true (.op 30 true (.op 31 false (.op 32 true (.op 33 true (.done))))))))))))))))))))))))))))))))))) (by kernel_rfl) ?_)
    | ((first | (with_reducible apply WL_op; intro nx hnx) | with_reducible refine Ev_out ?_ | (with_reducible apply popsD_op; intro nx hnx) | (with_reducible refine popsD_alt ?_ ?_; intro nx hnx) | (with_reducible refine pfresh_k hnm fun nm hnm => ?_; (try simp only [fmb] at hnm)) | (with_reducible refine pborn_mu hnm fun nm hnm => ?_; (try simp only [fmb] at hnm)) | (with_reducible refine pmaybe_k ?_; intro bn hbn)); try (simp (maxSteps := 2000000) (disch := omega) only [evb, evd, pbuiltin, constPV, pnck, seqK, blockK, scopeK, pbin, pun, ppick, plen, piaddr, pindex, pfield, pslice, pbound, pconv, pelems, pextract, pmm, PV.mem?, PV.one, PV.cells, pageq, peqs, peq1, pmakes, pstore, pbytes, pmark, psrc, pkey, pnile, pcap, pgrow, List.set, Value.cells, ↓popG_eq, ↓pop.eq_1, ↓List.getElem?_map, ↓List.getElem?_cons_zero, ↓List.getElem?_cons_succ, Value.oneCell', Nat.reduceAdd, Nat.reduceMul, Nat.reduceSub, Nat.reduceLeDiff, Nat.reduceEqDiff, ↓reduceIte, ne_eq, reduceCtorEq, forall_const, exists_and_left, exists_eq_left', eq_self, Nat.reduceLT, Int.reduceLT, Int.reduceLE, Int.reduceToNat, Int.reduceAdd, Int.reduceSub, Int.reduceNeg, hnm, Try.tf0, Try.tf1, Try.tf2, Try.tf3, Try.tf4, Try.tf5, Try.tf22, Try.tf23, Try.tf24, Try.tf28, Try.tf33, Try.tf34, Try.tf35, Try.tf44, Try.tf65, Try.teq79, Try.call9, Try.call10, Try.call11, Try.call13, Try.call19, Try.call21, Try.call23]); repeat (refine And.intro (by omega) ?_))
    | ((with_reducible first | apply WL_nil | apply W_label | apply W_skip | apply W_exit | apply W_ret | apply popsD_done); try simp only [seqK, blockK, scopeK, ↓reduceIte, Nat.reduceEqDiff])
    | with_reducible exact popsD_stop
    | (with_reducible apply pguard_intro <;> (intro hc; (try simp only [hcb, reduceCtorEq, forall_const, ne_eq] at hc); first | (exfalso; omega) | (exfalso; exact hc trivial) | refine Ev_in ?_))
    | (with_reducible apply W_cond_k; intro _ _ ea eb; (simp only [condK, cob, opnd, constPV, Nat.reduceEqDiff, Nat.reduceLT, ↓reduceIte, hcb, reduceCtorEq, forall_const, ne_eq]); subst ea eb; first | (refine ⟨fun hc => ?_, fun hc => ?_⟩ <;> first | (exfalso; omega) | (exfalso; exact hc trivial) | skip) | skip)
    | (with_reducible apply hnx; clear hnx nx)
    | (with_reducible refine And.intro (by omega) ?_)
    | (with_reducible refine And.intro ?_ ?_)
    | (clear hnx nx; with_reducible apply hnx; clear hnx nx)
    | (clear hnx nx; clear hnx nx; with_reducible apply hnx; clear hnx nx)
    | (clear hnx nx; clear hnx nx; clear hnx nx; with_reducible apply hnx; clear hnx nx))
    refine hlp _ 0 ⟨fr 176 ((18, pn 2) :: proL a b nG m0 m1 n), proO nG rj.got sb.got (Hb' ++ Ha')⟩ (by omega) ?_ ⟨rj, (outL sb).2, Ha', Hb', hA', hB', .inr (.inr ⟨rfl, hI.half hJ, rfl⟩)⟩
    refine At_fr (by simp only [wkb, Nat.reduceEqDiff, Nat.reduceLT, ↓reduceIte, pn]) ?_
    exact Hs.refl _
  · repeat' (first
    | (with_reducible apply W_seq_k; intro nx hnx)
    | (with_reducible first | apply W_block | apply W_scope)
    | (with_reducible refine W_prune 16776223 ?_; simp only [prb, Nat.reducePow, Nat.reduceDiv, Nat.reduceMod, Nat.reduceBEq]; first | (with_reducible apply W_region_l) | with_reducible refine W_region_draw (id := 19) 1 (.op 0 true (.op 1 true (.op 2 true (.op 3 true (.op 4 true (.op 5 true (.op 6 true (.op 7 true (.op 8 true (.done)))))))))) (by kernel_rfl) ?_ | with_reducible refine W_region_draw (id := 28) 3 (.op 0 true (.op 1 true (.op 2 true (.op 3 true (.op 4 true (.op 5 true (.op 6 true (.op 7 true (.op 8 true (.op 9 false (.op 10 true (.op 11 true (.op 12 true (.op 13 true (.op 14 true (.done)))))))))))))))) (by kernel_rfl) ?_ | with_reducible refine W_region_draw (id := 34) 1 (.op 0 true (.op 1 true (.op 2 true (.op 3 true (.op 4 true (.op 5 true (.op 6 true (.op 7 true (.op 8 true (.op 9 true (.op 10 true (.op 11 true (.op 12 true (.op 13 true (.op 14 true (.op 15 true (.op 16 true (.op 17 true (.op 18 true (.op 19 true (.op 20 true (.done)))))))))))))))))))))) (by kernel_rfl) ?_ | with_reducible refine W_region_draw (id := 37) 9 (.op 0 true (.op 1 true (.op 2 true (.op 3 true (.op 4 true (.op 5 true (.op 6 true (.op 7 true (.op 8 true (.op 9 true (.op 10 true (.op 11 true (.op 12 true (.op 13 true (.op 14 true (.op 15 true (.op 16 true (.op 17 true (.op 18 true (.op 19 true (.op 20 false (.op 21 true (.op 22 true (.op 23 true (.op 24 true (.op 25 true (.op 26 true (.op 27 false (.op 28 true (.op 29 true (.op 30 true (.op 31 false (.op 32 true (.op 33 true (.done))))))))))))))))))))))))))))))))))) (by kernel_rfl) ?_)
    | ((first | (with_reducible apply WL_op; intro nx hnx) | with_reducible refine Ev_out ?_ | (with_reducible apply popsD_op; intro nx hnx) | (with_reducible refine popsD_alt ?_ ?_; intro nx hnx) | (with_reducible refine pfresh_k hnm fun nm hnm => ?_; (try simp only [fmb] at hnm)) | (with_reducible refine pborn_mu hnm fun nm hnm => ?_; (try simp only [fmb] at hnm)) | (with_reducible refine pmaybe_k ?_; intro bn hbn)); try (simp (maxSteps := 2000000) (disch := omega) only [evb, evd, pbuiltin, constPV, pnck, seqK, blockK, scopeK, pbin, pun, ppick, plen, piaddr, pindex, pfield, pslice, pbound, pconv, pelems, pextract, pmm, PV.mem?, PV.one, PV.cells, pageq, peqs, peq1, pmakes, pstore, pbytes, pmark, psrc, pkey, pnile, pcap, pgrow, List.set, Value.cells, ↓popG_eq, ↓pop.eq_1, ↓List.getElem?_map, ↓List.getElem?_cons_zero, ↓List.getElem?_cons_succ, Value.oneCell', Nat.reduceAdd, Nat.reduceMul, Nat.reduceSub, Nat.reduceLeDiff, Nat.reduceEqDiff, ↓reduceIte, ne_eq, reduceCtorEq, forall_const, exists_and_left, exists_eq_left', eq_self, Nat.reduceLT, Int.reduceLT, Int.reduceLE, Int.reduceToNat, Int.reduceAdd, Int.reduceSub, Int.reduceNeg, hnm, Try.tf0, Try.tf1, Try.tf2, Try.tf3, Try.tf4, Try.tf5, Try.tf22, Try.tf23, Try.tf24, Try.tf28, Try.tf33, Try.tf34, Try.tf35, Try.tf44, Try.tf65, Try.teq79, Try.call9, Try.call10, Try.call11, Try.call13, Try.call19, Try.call21, Try.call23]); repeat (refine And.intro (by omega) ?_))
    | ((with_reducible first | apply WL_nil | apply W_label | apply W_skip | apply W_exit | apply W_ret | apply popsD_done); try simp only [seqK, blockK, scopeK, ↓reduceIte, Nat.reduceEqDiff])
    | with_reducible exact popsD_stop
    | (with_reducible apply pguard_intro <;> (intro hc; (try simp only [hcb, reduceCtorEq, forall_const, ne_eq] at hc); first | (exfalso; omega) | (exfalso; exact hc trivial) | refine Ev_in ?_))
    | (with_reducible apply W_cond_k; intro _ _ ea eb; (simp only [condK, cob, opnd, constPV, Nat.reduceEqDiff, Nat.reduceLT, ↓reduceIte, hcb, reduceCtorEq, forall_const, ne_eq]); subst ea eb; first | (refine ⟨fun hc => ?_, fun hc => ?_⟩ <;> first | (exfalso; omega) | (exfalso; exact hc trivial) | skip) | skip)
    | (with_reducible apply hnx; clear hnx nx)
    | (with_reducible refine And.intro (by omega) ?_)
    | (with_reducible refine And.intro ?_ ?_)
    | (clear hnx nx; with_reducible apply hnx; clear hnx nx)
    | (clear hnx nx; clear hnx nx; with_reducible apply hnx; clear hnx nx)
    | (clear hnx nx; clear hnx nx; clear hnx nx; with_reducible apply hnx; clear hnx nx))
    all_goals first
      | exact absurd trivial hc
      | (exfalso
         omega)
      | skip
    refine hK _ sa sb Ha Hb hI hA hB ?_
    refine At_fr (by simp only [wkb, Nat.reduceEqDiff, Nat.reduceLT, ↓reduceIte]) ?_
    exact Hs.refl _
theorem stI_ord (win m m' : Nat) (key : UInt64) (h1 : 1 ≤ win) (h2 : win ≤ 16) (hm : m ≤ 31) (hm' : m' ≤ 31) : OrdE 100 key (msgN m) (msgN m') 0 (stI win key m) :=
  ⟨rfl, h2, h1, by rw [msgN_len]; omega, Nat.le_refl _, Nat.zero_le _, by simp, Nat.zero_le _, by rw [msgN_len]; omega, by simp, by simp, rfl, by
    intro b hb
    obtain ⟨j, _, rfl⟩ := List.mem_map.1 hb
    simp⟩
theorem pro_look {a b nG : Int} {sa sb : LE} {g0 g1 : Nat} {Ha Hb : Heap} (hA : IsEnd a sa Ha) (hB : IsEnd b sb Hb) (nd : (names (proO nG g0 g1 (Hb ++ Ha))).Nodup) :
    (∃ w m, look (proO nG g0 g1 (Hb ++ Ha)) a = some ⟨65, false, 0, endC w m sa⟩) ∧ ∃ w m, look (proO nG g0 g1 (Hb ++ Ha)) b = some ⟨65, false, 0, endC w m sb⟩ := by
  obtain ⟨w1, m1, rfl⟩ := hA
  obtain ⟨w2, m2, rfl⟩ := hB
  exact ⟨⟨w1, m1, look_in (by simp) nd⟩, ⟨w2, m2, look_in (by simp) nd⟩⟩
set_option maxRecDepth 100000 in
set_option maxHeartbeats 8000000 in
theorem law6 (G : Globs) (window : Int) (hw : inR window) (key : UInt64) (one : Int) (h1r : inR one) (two : Int) (h2r : inR two) (lost : Int) (hlr : inR lost) :
    PCalls Try.prog G 6 [pint .i64 window, pq key, pint .i64 one, pint .i64 two, pint .i64 lost] [] (fun res H => res = pbool true ∧ H = []) := by
  have en := ends_c G window key hw
  have h1 := arN_lt window 16 (by omega)
  have h2 := arN_lt (window.tdiv 16) 16 (by omega)
  have h3 : 1 ≤ winA window ∧ winA window ≤ 16 := by rw [winA]; omega
  have h4 : 1 ≤ winB window ∧ winB window ≤ 16 := by rw [winB]; omega
  have lv := lives_c G
  generalize winA window = wa at *
  generalize winB window = wb at *
  have c1 := around_c G one 31 (by omega) (by omega) h1r
  have c2 := around_c G two 31 (by omega) (by omega) h2r
  have c1 : PCalls Try.prog G 10 [pint .i64 one, .val (.int .i64 31)] [] _ := c1
  have c2 : PCalls Try.prog G 10 [pint .i64 two, .val (.int .i64 31)] [] _ := c2
  have hm0 := arN_lt one 31 (by omega)
  have hm1 := arN_lt two 31 (by omega)
  generalize arN one 31 = m0 at *
  generalize arN two 31 = m1 at *
  have snd := fun (a b : Int) (Ha Hb : Heap) (hA : IsEnd a (newL wa key) Ha) (hB : IsEnd b (newL wb key) Hb) K hK => prog_send G key lost a b wa wb m0 m1 (by omega) (by omega) Ha Hb hA hB K hK
  have los := fun (a b : Int) (Ha Hb : Heap) (hA : IsEnd a (stI wa key m0) Ha) (hB : IsEnd b (stI wb key m1) Hb) K hK => prog_lost G key lost hlr a b wa wb m0 m1 (by omega) (by omega) (by omega) (by omega) Ha Hb hA hB K hK
  simp only [Try.f6, nav, Option.getD_some] at snd los
  (refine PCalls_f Try.func6 rfl Try.ntmps6 Try.results6 (by simp) fun fin hfin => ?_; have hnm : True := trivial; simp (maxSteps := 2000000) (disch := omega) only [evb, evd, pbuiltin, constPV, pnck, seqK, blockK, scopeK, pbin, pun, ppick, plen, piaddr, pindex, pfield, pslice, pbound, pconv, pelems, pextract, pmm, PV.mem?, PV.one, PV.cells, pageq, peqs, peq1, pmakes, pstore, pbytes, pmark, psrc, pkey, pnile, pcap, pgrow, List.set, Value.cells, ↓popG_eq, ↓pop.eq_1, ↓List.getElem?_map, ↓List.getElem?_cons_zero, ↓List.getElem?_cons_succ, Value.oneCell', Nat.reduceAdd, Nat.reduceMul, Nat.reduceSub, Nat.reduceLeDiff, Nat.reduceEqDiff, ↓reduceIte, ne_eq, reduceCtorEq, forall_const, exists_and_left, exists_eq_left', eq_self, Nat.reduceLT, Int.reduceLT, Int.reduceLE, Int.reduceToNat, Int.reduceAdd, Int.reduceSub, Int.reduceNeg, hnm, Try.tf0, Try.tf1, Try.tf2, Try.tf3, Try.tf4, Try.tf5, Try.tf22, Try.tf23, Try.tf24, Try.tf28, Try.tf33, Try.tf34, Try.tf35, Try.tf44, Try.tf65, Try.teq79, Try.call9, Try.call10, Try.call11, Try.call13, Try.call19, Try.call21, Try.call23])
  repeat' (first
    | (with_reducible refine W_at ?_ (snd a b Ha Hb hEa hEb _ ?_))
    | (with_reducible apply W_seq_k; intro nx hnx)
    | (with_reducible first | apply W_block | apply W_scope)
    | (with_reducible refine W_prune 16776223 ?_; simp only [prb, Nat.reducePow, Nat.reduceDiv, Nat.reduceMod, Nat.reduceBEq]; first | (with_reducible apply W_region_l) | with_reducible refine W_region_draw (id := 19) 1 (.op 0 true (.op 1 true (.op 2 true (.op 3 true (.op 4 true (.op 5 true (.op 6 true (.op 7 true (.op 8 true (.done)))))))))) (by kernel_rfl) ?_ | with_reducible refine W_region_draw (id := 28) 3 (.op 0 true (.op 1 true (.op 2 true (.op 3 true (.op 4 true (.op 5 true (.op 6 true (.op 7 true (.op 8 true (.op 9 false (.op 10 true (.op 11 true (.op 12 true (.op 13 true (.op 14 true (.done)))))))))))))))) (by kernel_rfl) ?_ | with_reducible refine W_region_draw (id := 34) 1 (.op 0 true (.op 1 true (.op 2 true (.op 3 true (.op 4 true (.op 5 true (.op 6 true (.op 7 true (.op 8 true (.op 9 true (.op 10 true (.op 11 true (.op 12 true (.op 13 true (.op 14 true (.op 15 true (.op 16 true (.op 17 true (.op 18 true (.op 19 true (.op 20 true (.done)))))))))))))))))))))) (by kernel_rfl) ?_ | with_reducible refine W_region_draw (id := 37) 9 (.op 0 true (.op 1 true (.op 2 true (.op 3 true (.op 4 true (.op 5 true (.op 6 true (.op 7 true (.op 8 true (.op 9 true (.op 10 true (.op 11 true (.op 12 true (.op 13 true (.op 14 true (.op 15 true (.op 16 true (.op 17 true (.op 18 true (.op 19 true (.op 20 false (.op 21 true (.op 22 true (.op 23 true (.op 24 true (.op 25 true (.op 26 true (.op 27 false (.op 28 true (.op 29 true (.op 30 true (.op 31 false (.op 32 true (.op 33 true (.done))))))))))))))))))))))))))))))))))) (by kernel_rfl) ?_)
    | (with_reducible refine WL_born (by simp) rfl (by simp) ?_; simp only [elemsOf, nl, List.map_cons, List.map_nil, Nat.reduceEqDiff, ↓reduceIte, List.take_succ_cons, List.take_zero, List.range_succ, List.range_zero, List.nil_append, List.cons_append, List.map_append, List.drop_succ_cons, List.drop_zero, Nat.reduceMul, Nat.zero_mul, Nat.one_mul, Nat.reduceAdd])
    | ((first | (with_reducible apply WL_op; intro nx hnx) | with_reducible refine Ev_out ?_ | (with_reducible apply popsD_op; intro nx hnx) | (with_reducible refine popsD_alt ?_ ?_; intro nx hnx) | (with_reducible refine pfresh_k hnm fun nm hnm => ?_; (try simp only [fmb] at hnm)) | (with_reducible refine pborn_im ?_; simp only [elemsOf, nl, List.map_cons, List.map_nil, Nat.reduceEqDiff, ↓reduceIte, List.take_succ_cons, List.take_zero, List.range_succ, List.range_zero, List.nil_append, List.cons_append, List.map_append, List.drop_succ_cons, List.drop_zero, Nat.reduceMul, Nat.zero_mul, Nat.one_mul, Nat.reduceAdd]) | (with_reducible refine pmaybe_k ?_; intro bn hbn)); try (simp (maxSteps := 2000000) (disch := omega) only [evb, evd, pbuiltin, constPV, pnck, seqK, blockK, scopeK, pbin, pun, ppick, plen, piaddr, pindex, pfield, pslice, pbound, pconv, pelems, pextract, pmm, PV.mem?, PV.one, PV.cells, pageq, peqs, peq1, pmakes, pstore, pbytes, pmark, psrc, pkey, pnile, pcap, pgrow, List.set, Value.cells, ↓popG_eq, ↓pop.eq_1, ↓List.getElem?_map, ↓List.getElem?_cons_zero, ↓List.getElem?_cons_succ, Value.oneCell', Nat.reduceAdd, Nat.reduceMul, Nat.reduceSub, Nat.reduceLeDiff, Nat.reduceEqDiff, ↓reduceIte, ne_eq, reduceCtorEq, forall_const, exists_and_left, exists_eq_left', eq_self, Nat.reduceLT, Int.reduceLT, Int.reduceLE, Int.reduceToNat, Int.reduceAdd, Int.reduceSub, Int.reduceNeg, hnm, Try.tf0, Try.tf1, Try.tf2, Try.tf3, Try.tf4, Try.tf5, Try.tf22, Try.tf23, Try.tf24, Try.tf28, Try.tf33, Try.tf34, Try.tf35, Try.tf44, Try.tf65, Try.teq79, Try.call9, Try.call10, Try.call11, Try.call13, Try.call19, Try.call21, Try.call23]); repeat (refine And.intro (by omega) ?_))
    | ((with_reducible first | apply WL_nil | apply W_label | apply W_skip | apply W_exit | apply W_ret | apply popsD_done); try simp only [seqK, blockK, scopeK, ↓reduceIte, Nat.reduceEqDiff])
    | with_reducible exact popsD_stop
    | (with_reducible apply pguard_intro <;> (intro hc; (try simp only [hcb, reduceCtorEq, forall_const, ne_eq] at hc); first | (exfalso; omega) | (exfalso; exact hc trivial) | refine Ev_in ?_))
    | (with_reducible apply W_cond_k; intro _ _ ea eb; (simp only [condK, cob, opnd, constPV, Nat.reduceEqDiff, Nat.reduceLT, ↓reduceIte, hcb, reduceCtorEq, forall_const, ne_eq]); subst ea eb; first | (refine ⟨fun hc => ?_, fun hc => ?_⟩ <;> first | (exfalso; omega) | (exfalso; exact hc trivial) | skip) | skip)
    | (with_reducible apply hnx; clear hnx nx)
    | (with_reducible refine And.intro (by omega) ?_)
    | (with_reducible refine And.intro ?_ ?_)
    | (with_reducible refine pcall_k (c1) ?_; rintro _ _ ⟨rfl, rfl⟩ -; refine Ev_in ?_)
    | (with_reducible refine pcall_k (c2) ?_; rintro _ _ ⟨rfl, rfl⟩ -; refine Ev_in ?_)
    | ((refine pcall_k en ?_; rintro _ _ ⟨b, a, Hb, Ha, rfl, rfl, hEb, hEa⟩ -; refine Ev_in ?_))
    | (clear hnx nx; with_reducible apply hnx; clear hnx nx)
    | (clear hnx nx; clear hnx nx; with_reducible apply hnx; clear hnx nx)
    | (clear hnx nx; clear hnx nx; clear hnx nx; with_reducible apply hnx; clear hnx nx))
  all_goals first
    | exact absurd trivial hc
    | (have hx := hbn trivial
       rw [hc] at hx
       exact Bool.noConfusion hx)
    | (refine At_fr (by simp only [wkb, Nat.reduceEqDiff, Nat.reduceLT, ↓reduceIte, pn]) ?_
       exact Hs.refl _)
    | skip
  intro σ' Ha1 Hb1 hA1 hB1 hat
  refine hnx σ' (W_at hat ?_)
  clear hnx snd hat hEa hEb
  repeat' (first
    | (with_reducible refine W_at ?_ (los a b Ha1 Hb1 hA1 hB1 _ ?_))
    | (with_reducible apply W_seq_k; intro nx hnx)
    | (with_reducible first | apply W_block | apply W_scope)
    | (with_reducible refine W_prune 16776223 ?_; simp only [prb, Nat.reducePow, Nat.reduceDiv, Nat.reduceMod, Nat.reduceBEq]; first | (with_reducible apply W_region_l) | with_reducible refine W_region_draw (id := 19) 1 (.op 0 true (.op 1 true (.op 2 true (.op 3 true (.op 4 true (.op 5 true (.op 6 true (.op 7 true (.op 8 true (.done)))))))))) (by kernel_rfl) ?_ | with_reducible refine W_region_draw (id := 28) 3 (.op 0 true (.op 1 true (.op 2 true (.op 3 true (.op 4 true (.op 5 true (.op 6 true (.op 7 true (.op 8 true (.op 9 false (.op 10 true (.op 11 true (.op 12 true (.op 13 true (.op 14 true (.done)))))))))))))))) (by kernel_rfl) ?_ | with_reducible refine W_region_draw (id := 34) 1 (.op 0 true (.op 1 true (.op 2 true (.op 3 true (.op 4 true (.op 5 true (.op 6 true (.op 7 true (.op 8 true (.op 9 true (.op 10 true (.op 11 true (.op 12 true (.op 13 true (.op 14 true (.op 15 true (.op 16 true (.op 17 true (.op 18 true (.op 19 true (.op 20 true (.done)))))))))))))))))))))) (by kernel_rfl) ?_ | with_reducible refine W_region_draw (id := 37) 9 (.op 0 true (.op 1 true (.op 2 true (.op 3 true (.op 4 true (.op 5 true (.op 6 true (.op 7 true (.op 8 true (.op 9 true (.op 10 true (.op 11 true (.op 12 true (.op 13 true (.op 14 true (.op 15 true (.op 16 true (.op 17 true (.op 18 true (.op 19 true (.op 20 false (.op 21 true (.op 22 true (.op 23 true (.op 24 true (.op 25 true (.op 26 true (.op 27 false (.op 28 true (.op 29 true (.op 30 true (.op 31 false (.op 32 true (.op 33 true (.done))))))))))))))))))))))))))))))))))) (by kernel_rfl) ?_)
    | ((first | (with_reducible apply WL_op; intro nx hnx) | with_reducible refine Ev_out ?_ | (with_reducible apply popsD_op; intro nx hnx) | (with_reducible refine popsD_alt ?_ ?_; intro nx hnx) | (with_reducible refine pfresh_k hnm fun nm hnm => ?_; (try simp only [fmb] at hnm)) | (with_reducible refine pborn_mu hnm fun nm hnm => ?_; (try simp only [fmb] at hnm)) | (with_reducible refine pmaybe_k ?_; intro bn hbn)); try (simp (maxSteps := 2000000) (disch := omega) only [evb, evd, pbuiltin, constPV, pnck, seqK, blockK, scopeK, pbin, pun, ppick, plen, piaddr, pindex, pfield, pslice, pbound, pconv, pelems, pextract, pmm, PV.mem?, PV.one, PV.cells, pageq, peqs, peq1, pmakes, pstore, pbytes, pmark, psrc, pkey, pnile, pcap, pgrow, List.set, Value.cells, ↓popG_eq, ↓pop.eq_1, ↓List.getElem?_map, ↓List.getElem?_cons_zero, ↓List.getElem?_cons_succ, Value.oneCell', Nat.reduceAdd, Nat.reduceMul, Nat.reduceSub, Nat.reduceLeDiff, Nat.reduceEqDiff, ↓reduceIte, ne_eq, reduceCtorEq, forall_const, exists_and_left, exists_eq_left', eq_self, Nat.reduceLT, Int.reduceLT, Int.reduceLE, Int.reduceToNat, Int.reduceAdd, Int.reduceSub, Int.reduceNeg, hnm, Try.tf0, Try.tf1, Try.tf2, Try.tf3, Try.tf4, Try.tf5, Try.tf22, Try.tf23, Try.tf24, Try.tf28, Try.tf33, Try.tf34, Try.tf35, Try.tf44, Try.tf65, Try.teq79, Try.call9, Try.call10, Try.call11, Try.call13, Try.call19, Try.call21, Try.call23]); repeat (refine And.intro (by omega) ?_))
    | ((with_reducible first | apply WL_nil | apply W_label | apply W_skip | apply W_exit | apply W_ret | apply popsD_done); try simp only [seqK, blockK, scopeK, ↓reduceIte, Nat.reduceEqDiff])
    | with_reducible exact popsD_stop
    | (with_reducible apply pguard_intro <;> (intro hc; (try simp only [hcb, reduceCtorEq, forall_const, ne_eq] at hc); first | (exfalso; omega) | (exfalso; exact hc trivial) | refine Ev_in ?_))
    | (with_reducible apply W_cond_k; intro _ _ ea eb; (simp only [condK, cob, opnd, constPV, Nat.reduceEqDiff, Nat.reduceLT, ↓reduceIte, hcb, reduceCtorEq, forall_const, ne_eq]); subst ea eb; first | (refine ⟨fun hc => ?_, fun hc => ?_⟩ <;> first | (exfalso; omega) | (exfalso; exact hc trivial) | skip) | skip)
    | (with_reducible apply hnx; clear hnx nx)
    | (with_reducible refine And.intro (by omega) ?_)
    | (with_reducible refine And.intro ?_ ?_)
    | (clear hnx nx; with_reducible apply hnx; clear hnx nx)
    | (clear hnx nx; clear hnx nx; with_reducible apply hnx; clear hnx nx)
    | (clear hnx nx; clear hnx nx; clear hnx nx; with_reducible apply hnx; clear hnx nx))
  all_goals first
    | (refine At_fr (by simp only [wkb, Nat.reduceEqDiff, Nat.reduceLT, ↓reduceIte, pn]) ?_
       exact Hs.refl _)
    | skip
  intro σ' Ha2 Hb2 hA2 hB2 hat
  refine hnx σ' (W_at hat ?_)
  clear hnx los hat hA1 hB1
  repeat' (first
    | (with_reducible apply W_seq_k; intro nx hnx)
    | (with_reducible first | apply W_block | apply W_scope)
    | (with_reducible refine W_prune 16776223 ?_; simp only [prb, Nat.reducePow, Nat.reduceDiv, Nat.reduceMod, Nat.reduceBEq]; first | (with_reducible apply W_region_l) | with_reducible refine W_region_draw (id := 19) 1 (.op 0 true (.op 1 true (.op 2 true (.op 3 true (.op 4 true (.op 5 true (.op 6 true (.op 7 true (.op 8 true (.done)))))))))) (by kernel_rfl) ?_ | with_reducible refine W_region_draw (id := 28) 3 (.op 0 true (.op 1 true (.op 2 true (.op 3 true (.op 4 true (.op 5 true (.op 6 true (.op 7 true (.op 8 true (.op 9 false (.op 10 true (.op 11 true (.op 12 true (.op 13 true (.op 14 true (.done)))))))))))))))) (by kernel_rfl) ?_ | with_reducible refine W_region_draw (id := 34) 1 (.op 0 true (.op 1 true (.op 2 true (.op 3 true (.op 4 true (.op 5 true (.op 6 true (.op 7 true (.op 8 true (.op 9 true (.op 10 true (.op 11 true (.op 12 true (.op 13 true (.op 14 true (.op 15 true (.op 16 true (.op 17 true (.op 18 true (.op 19 true (.op 20 true (.done)))))))))))))))))))))) (by kernel_rfl) ?_ | with_reducible refine W_region_draw (id := 37) 9 (.op 0 true (.op 1 true (.op 2 true (.op 3 true (.op 4 true (.op 5 true (.op 6 true (.op 7 true (.op 8 true (.op 9 true (.op 10 true (.op 11 true (.op 12 true (.op 13 true (.op 14 true (.op 15 true (.op 16 true (.op 17 true (.op 18 true (.op 19 true (.op 20 false (.op 21 true (.op 22 true (.op 23 true (.op 24 true (.op 25 true (.op 26 true (.op 27 false (.op 28 true (.op 29 true (.op 30 true (.op 31 false (.op 32 true (.op 33 true (.done))))))))))))))))))))))))))))))))))) (by kernel_rfl) ?_)
    | ((first | (with_reducible apply WL_op; intro nx hnx) | with_reducible refine Ev_out ?_ | (with_reducible apply popsD_op; intro nx hnx) | (with_reducible refine popsD_alt ?_ ?_; intro nx hnx) | (with_reducible refine pfresh_k hnm fun nm hnm => ?_; (try simp only [fmb] at hnm)) | (with_reducible refine pborn_mu hnm fun nm hnm => ?_; (try simp only [fmb] at hnm)) | (with_reducible refine pmaybe_k ?_; intro bn hbn)); try (simp (maxSteps := 2000000) (disch := omega) only [evb, evd, pbuiltin, constPV, pnck, seqK, blockK, scopeK, pbin, pun, ppick, plen, piaddr, pindex, pfield, pslice, pbound, pconv, pelems, pextract, pmm, PV.mem?, PV.one, PV.cells, pageq, peqs, peq1, pmakes, pstore, pbytes, pmark, psrc, pkey, pnile, pcap, pgrow, List.set, Value.cells, ↓popG_eq, ↓pop.eq_1, ↓List.getElem?_map, ↓List.getElem?_cons_zero, ↓List.getElem?_cons_succ, Value.oneCell', Nat.reduceAdd, Nat.reduceMul, Nat.reduceSub, Nat.reduceLeDiff, Nat.reduceEqDiff, ↓reduceIte, ne_eq, reduceCtorEq, forall_const, exists_and_left, exists_eq_left', eq_self, Nat.reduceLT, Int.reduceLT, Int.reduceLE, Int.reduceToNat, Int.reduceAdd, Int.reduceSub, Int.reduceNeg, hnm, Try.tf0, Try.tf1, Try.tf2, Try.tf3, Try.tf4, Try.tf5, Try.tf22, Try.tf23, Try.tf24, Try.tf28, Try.tf33, Try.tf34, Try.tf35, Try.tf44, Try.tf65, Try.teq79, Try.call9, Try.call10, Try.call11, Try.call13, Try.call19, Try.call21, Try.call23]); repeat (refine And.intro (by omega) ?_))
    | ((with_reducible first | apply WL_nil | apply W_label | apply W_skip | apply W_exit | apply W_ret | apply popsD_done); try simp only [seqK, blockK, scopeK, ↓reduceIte, Nat.reduceEqDiff])
    | with_reducible exact popsD_stop
    | (with_reducible apply pguard_intro <;> (intro hc; (try simp only [hcb, reduceCtorEq, forall_const, ne_eq] at hc); first | (exfalso; omega) | (exfalso; exact hc trivial) | refine Ev_in ?_))
    | (with_reducible apply W_cond_k; intro _ _ ea eb; (simp only [condK, cob, opnd, constPV, Nat.reduceEqDiff, Nat.reduceLT, ↓reduceIte, hcb, reduceCtorEq, forall_const, ne_eq]); subst ea eb; first | (refine ⟨fun hc => ?_, fun hc => ?_⟩ <;> first | (exfalso; omega) | (exfalso; exact hc trivial) | skip) | skip)
    | (with_reducible apply hnx; clear hnx nx)
    | (with_reducible refine And.intro (by omega) ?_)
    | (with_reducible refine And.intro ?_ ?_)
    | (clear hnx nx; with_reducible apply hnx; clear hnx nx)
    | (clear hnx nx; clear hnx nx; with_reducible apply hnx; clear hnx nx)
    | (clear hnx nx; clear hnx nx; clear hnx nx; with_reducible apply hnx; clear hnx nx))
  have hI0 : ProI 100 0 key (msgN m0) (msgN m1) (stI wa key m0) (stI wb key m1) :=
    ⟨stI_ord wa m0 m1 key h3.1 h3.2 (by omega) (by omega), stI_ord wb m1 m0 key h4.1 h4.2 (by omega) (by omega), rfl, rfl, rfl, .inr rfl, by simp, by simp, by omega⟩
  refine W_loop_at (fun z τ => ∃ (n : Nat) (sa sb : LE) (Ha Hb : Heap), n ≤ max m0 m1 + 1 ∧ z = max m0 m1 + 1 - n ∧ IsEnd a sa Ha ∧ IsEnd b sb Hb ∧ ProI (100 + 32 * n) n key (msgN m0) (msgN m1) sa sb ∧ τ = ⟨fr 176 (proL a b nm m0 m1 n), proO nm sa.got sb.got (Hb ++ Ha)⟩) (max m0 m1 + 1)
    ⟨fr 176 (proL a b nm m0 m1 0), proO nm 0 0 (Hb2 ++ Ha2)⟩ (by
    refine At_fr (by simp only [wkb, Nat.reduceEqDiff, Nat.reduceLT, ↓reduceIte, pn]) ?_
    exact Hs.refl _) ⟨0, _, _, Ha2, Hb2, by omega, by omega, hA2, hB2, hI0, rfl⟩ ?_
  clear hA2 hB2 hI0 hnm
  have hnm : True := trivial
  rintro z τ ⟨n, sa, sb, Ha, Hb, hn, rfl, hA, hB, hI, rfl⟩ lp hlp
  have hmx : max (m0 : Int) (m1 : Int) = ((max m0 m1 : Nat) : Int) := by omega
  by_cases hx : n ≤ max m0 m1
  · have rd := fun K hK => prog_round G key a b nm m0 m1 n (100 + 32 * n) (by omega) (by omega) (by omega) sa sb hI Ha Hb hA hB K hK
    simp only [Try.f6, nav, Option.getD_some] at rd
    generalize hM : max m0 m1 = M at *
    repeat' (first
    | (with_reducible refine W_at ?_ (rd _ ?_))
    | (with_reducible apply W_seq_k; intro nx hnx)
    | (with_reducible first | apply W_block | apply W_scope)
    | (with_reducible refine W_prune 16776223 ?_; simp only [prb, Nat.reducePow, Nat.reduceDiv, Nat.reduceMod, Nat.reduceBEq]; first | (with_reducible apply W_region_l) | with_reducible refine W_region_draw (id := 19) 1 (.op 0 true (.op 1 true (.op 2 true (.op 3 true (.op 4 true (.op 5 true (.op 6 true (.op 7 true (.op 8 true (.done)))))))))) (by kernel_rfl) ?_ | with_reducible refine W_region_draw (id := 28) 3 (.op 0 true (.op 1 true (.op 2 true (.op 3 true (.op 4 true (.op 5 true (.op 6 true (.op 7 true (.op 8 true (.op 9 false (.op 10 true (.op 11 true (.op 12 true (.op 13 true (.op 14 true (.done)))))))))))))))) (by kernel_rfl) ?_ | with_reducible refine W_region_draw (id := 34) 1 (.op 0 true (.op 1 true (.op 2 true (.op 3 true (.op 4 true (.op 5 true (.op 6 true (.op 7 true (.op 8 true (.op 9 true (.op 10 true (.op 11 true (.op 12 true (.op 13 true (.op 14 true (.op 15 true (.op 16 true (.op 17 true (.op 18 true (.op 19 true (.op 20 true (.done)))))))))))))))))))))) (by kernel_rfl) ?_ | with_reducible refine W_region_draw (id := 37) 9 (.op 0 true (.op 1 true (.op 2 true (.op 3 true (.op 4 true (.op 5 true (.op 6 true (.op 7 true (.op 8 true (.op 9 true (.op 10 true (.op 11 true (.op 12 true (.op 13 true (.op 14 true (.op 15 true (.op 16 true (.op 17 true (.op 18 true (.op 19 true (.op 20 false (.op 21 true (.op 22 true (.op 23 true (.op 24 true (.op 25 true (.op 26 true (.op 27 false (.op 28 true (.op 29 true (.op 30 true (.op 31 false (.op 32 true (.op 33 true (.done))))))))))))))))))))))))))))))))))) (by kernel_rfl) ?_)
    | ((first | (with_reducible apply WL_op; intro nx hnx) | with_reducible refine Ev_out ?_ | (with_reducible apply popsD_op; intro nx hnx) | (with_reducible refine popsD_alt ?_ ?_; intro nx hnx) | (with_reducible refine pfresh_k hnm fun nm hnm => ?_; (try simp only [fmb] at hnm)) | (with_reducible refine pborn_mu hnm fun nm hnm => ?_; (try simp only [fmb] at hnm)) | (with_reducible refine pmaybe_k ?_; intro bn hbn)); try (simp (maxSteps := 2000000) (disch := omega) only [evb, evd, pbuiltin, constPV, pnck, seqK, blockK, scopeK, pbin, pun, ppick, plen, piaddr, pindex, pfield, pslice, pbound, pconv, pelems, pextract, pmm, PV.mem?, PV.one, PV.cells, pageq, peqs, peq1, pmakes, pstore, pbytes, pmark, psrc, pkey, pnile, pcap, pgrow, List.set, Value.cells, ↓popG_eq, ↓pop.eq_1, ↓List.getElem?_map, ↓List.getElem?_cons_zero, ↓List.getElem?_cons_succ, Value.oneCell', Nat.reduceAdd, Nat.reduceMul, Nat.reduceSub, Nat.reduceLeDiff, Nat.reduceEqDiff, ↓reduceIte, ne_eq, reduceCtorEq, forall_const, exists_and_left, exists_eq_left', eq_self, Nat.reduceLT, Int.reduceLT, Int.reduceLE, Int.reduceToNat, Int.reduceAdd, Int.reduceSub, Int.reduceNeg, hnm, Try.tf0, Try.tf1, Try.tf2, Try.tf3, Try.tf4, Try.tf5, Try.tf22, Try.tf23, Try.tf24, Try.tf28, Try.tf33, Try.tf34, Try.tf35, Try.tf44, Try.tf65, Try.teq79, Try.call9, Try.call10, Try.call11, Try.call13, Try.call19, Try.call21, Try.call23, hmx]); repeat (refine And.intro (by omega) ?_))
    | ((with_reducible first | apply WL_nil | apply W_label | apply W_skip | apply W_exit | apply W_ret | apply popsD_done); try simp only [seqK, blockK, scopeK, ↓reduceIte, Nat.reduceEqDiff])
    | with_reducible exact popsD_stop
    | (with_reducible apply pguard_intro <;> (intro hc; (try simp only [hcb, reduceCtorEq, forall_const, ne_eq] at hc); first | (exfalso; omega) | (exfalso; exact hc trivial) | refine Ev_in ?_))
    | (with_reducible apply W_cond_k; intro _ _ ea eb; (simp only [condK, cob, opnd, constPV, Nat.reduceEqDiff, Nat.reduceLT, ↓reduceIte, hcb, reduceCtorEq, forall_const, ne_eq]); subst ea eb; first | (refine ⟨fun hc => ?_, fun hc => ?_⟩ <;> first | (exfalso; omega) | (exfalso; exact hc trivial) | skip) | skip)
    | (with_reducible apply hnx; clear hnx nx)
    | (with_reducible refine And.intro (by omega) ?_)
    | (with_reducible refine And.intro ?_ ?_)
    | (clear hnx nx; with_reducible apply hnx; clear hnx nx)
    | (clear hnx nx; clear hnx nx; with_reducible apply hnx; clear hnx nx)
    | (clear hnx nx; clear hnx nx; clear hnx nx; with_reducible apply hnx; clear hnx nx))
    all_goals first
      | exact absurd trivial hc
      | (exfalso
         omega)
      | (refine At_fr (by simp only [wkb, Nat.reduceEqDiff, Nat.reduceLT, ↓reduceIte, pn]) ?_
         exact Hs.refl _)
      | skip
    all_goals
      intro σ' sa' sb' Ha' Hb' hI' hA' hB' hat
      refine hnx σ' (W_at hat ?_)
      clear hnx rd
      repeat' (first
    | (with_reducible apply W_seq_k; intro nx hnx)
    | (with_reducible first | apply W_block | apply W_scope)
    | (with_reducible refine W_prune 16776223 ?_; simp only [prb, Nat.reducePow, Nat.reduceDiv, Nat.reduceMod, Nat.reduceBEq]; first | (with_reducible apply W_region_l) | with_reducible refine W_region_draw (id := 19) 1 (.op 0 true (.op 1 true (.op 2 true (.op 3 true (.op 4 true (.op 5 true (.op 6 true (.op 7 true (.op 8 true (.done)))))))))) (by kernel_rfl) ?_ | with_reducible refine W_region_draw (id := 28) 3 (.op 0 true (.op 1 true (.op 2 true (.op 3 true (.op 4 true (.op 5 true (.op 6 true (.op 7 true (.op 8 true (.op 9 false (.op 10 true (.op 11 true (.op 12 true (.op 13 true (.op 14 true (.done)))))))))))))))) (by kernel_rfl) ?_ | with_reducible refine W_region_draw (id := 34) 1 (.op 0 true (.op 1 true (.op 2 true (.op 3 true (.op 4 true (.op 5 true (.op 6 true (.op 7 true (.op 8 true (.op 9 true (.op 10 true (.op 11 true (.op 12 true (.op 13 true (.op 14 true (.op 15 true (.op 16 true (.op 17 true (.op 18 true (.op 19 true (.op 20 true (.done)))))))))))))))))))))) (by kernel_rfl) ?_ | with_reducible refine W_region_draw (id := 37) 9 (.op 0 true (.op 1 true (.op 2 true (.op 3 true (.op 4 true (.op 5 true (.op 6 true (.op 7 true (.op 8 true (.op 9 true (.op 10 true (.op 11 true (.op 12 true (.op 13 true (.op 14 true (.op 15 true (.op 16 true (.op 17 true (.op 18 true (.op 19 true (.op 20 false (.op 21 true (.op 22 true (.op 23 true (.op 24 true (.op 25 true (.op 26 true (.op 27 false (.op 28 true (.op 29 true (.op 30 true (.op 31 false (.op 32 true (.op 33 true (.done))))))))))))))))))))))))))))))))))) (by kernel_rfl) ?_)
    | ((first | (with_reducible apply WL_op; intro nx hnx) | with_reducible refine Ev_out ?_ | (with_reducible apply popsD_op; intro nx hnx) | (with_reducible refine popsD_alt ?_ ?_; intro nx hnx) | (with_reducible refine pfresh_k hnm fun nm hnm => ?_; (try simp only [fmb] at hnm)) | (with_reducible refine pborn_mu hnm fun nm hnm => ?_; (try simp only [fmb] at hnm)) | (with_reducible refine pmaybe_k ?_; intro bn hbn)); try (simp (maxSteps := 2000000) (disch := omega) only [evb, evd, pbuiltin, constPV, pnck, seqK, blockK, scopeK, pbin, pun, ppick, plen, piaddr, pindex, pfield, pslice, pbound, pconv, pelems, pextract, pmm, PV.mem?, PV.one, PV.cells, pageq, peqs, peq1, pmakes, pstore, pbytes, pmark, psrc, pkey, pnile, pcap, pgrow, List.set, Value.cells, ↓popG_eq, ↓pop.eq_1, ↓List.getElem?_map, ↓List.getElem?_cons_zero, ↓List.getElem?_cons_succ, Value.oneCell', Nat.reduceAdd, Nat.reduceMul, Nat.reduceSub, Nat.reduceLeDiff, Nat.reduceEqDiff, ↓reduceIte, ne_eq, reduceCtorEq, forall_const, exists_and_left, exists_eq_left', eq_self, Nat.reduceLT, Int.reduceLT, Int.reduceLE, Int.reduceToNat, Int.reduceAdd, Int.reduceSub, Int.reduceNeg, hnm, Try.tf0, Try.tf1, Try.tf2, Try.tf3, Try.tf4, Try.tf5, Try.tf22, Try.tf23, Try.tf24, Try.tf28, Try.tf33, Try.tf34, Try.tf35, Try.tf44, Try.tf65, Try.teq79, Try.call9, Try.call10, Try.call11, Try.call13, Try.call19, Try.call21, Try.call23]); repeat (refine And.intro (by omega) ?_))
    | ((with_reducible first | apply WL_nil | apply W_label | apply W_skip | apply W_exit | apply W_ret | apply popsD_done); try simp only [seqK, blockK, scopeK, ↓reduceIte, Nat.reduceEqDiff])
    | with_reducible exact popsD_stop
    | (with_reducible apply pguard_intro <;> (intro hc; (try simp only [hcb, reduceCtorEq, forall_const, ne_eq] at hc); first | (exfalso; omega) | (exfalso; exact hc trivial) | refine Ev_in ?_))
    | (with_reducible apply W_cond_k; intro _ _ ea eb; (simp only [condK, cob, opnd, constPV, Nat.reduceEqDiff, Nat.reduceLT, ↓reduceIte, hcb, reduceCtorEq, forall_const, ne_eq]); subst ea eb; first | (refine ⟨fun hc => ?_, fun hc => ?_⟩ <;> first | (exfalso; omega) | (exfalso; exact hc trivial) | skip) | skip)
    | (with_reducible apply hnx; clear hnx nx)
    | (with_reducible refine And.intro (by omega) ?_)
    | (with_reducible refine And.intro ?_ ?_)
    | (clear hnx nx; with_reducible apply hnx; clear hnx nx)
    | (clear hnx nx; clear hnx nx; with_reducible apply hnx; clear hnx nx)
    | (clear hnx nx; clear hnx nx; clear hnx nx; with_reducible apply hnx; clear hnx nx))
      refine hlp _ (M + 1 - (n + 1)) _ (by omega) ?_ ⟨n + 1, sa', sb', Ha', Hb', by omega, rfl, hA', hB', hI', rfl⟩
      refine At_fr (by simp only [wkb, Nat.reduceEqDiff, Nat.reduceLT, ↓reduceIte, pn]) ?_
      exact Hs.refl _
  · have hn2 : n = max m0 m1 + 1 := by omega
    have q1 := hI.db
    have q2 := hI.da
    have q3 := hI.fresh
    have q4 := hI.fin (by rw [msgN_len, msgN_len]; omega)
    have q5 := hI.oa.pg
    have q6 := hI.ob.pg
    have q7 := hI.oa.wlen
    have q8 := hI.ob.wlen
    rw [msgN_len] at q1 q2 q4 q5 q6 q7 q8
    have g1 : sb.got = m0 := by omega
    have g0 : sa.got = m1 := by omega
    refine W_nd fun nd => ?_
    obtain ⟨⟨w1, p1, k1⟩, w2, p2, k2⟩ := pro_look hA hB nd
    clear nd
    have c1 := waiting_i G w1 p1 sa
    have c2 := waiting_i G w2 p2 sb
    rw [show sa.wait.length = 0 by omega] at c1
    rw [show sb.wait.length = 0 by omega] at c2
    rw [g0, g1] at k1 k2 ⊢
    generalize hM : max m0 m1 = M at *
    repeat' (first
    | (with_reducible apply W_seq_k; intro nx hnx)
    | (with_reducible first | apply W_block | apply W_scope)
    | (with_reducible refine W_prune 16776223 ?_; simp only [prb, Nat.reducePow, Nat.reduceDiv, Nat.reduceMod, Nat.reduceBEq]; first | (with_reducible apply W_region_l) | with_reducible refine W_region_draw (id := 19) 1 (.op 0 true (.op 1 true (.op 2 true (.op 3 true (.op 4 true (.op 5 true (.op 6 true (.op 7 true (.op 8 true (.done)))))))))) (by kernel_rfl) ?_ | with_reducible refine W_region_draw (id := 28) 3 (.op 0 true (.op 1 true (.op 2 true (.op 3 true (.op 4 true (.op 5 true (.op 6 true (.op 7 true (.op 8 true (.op 9 false (.op 10 true (.op 11 true (.op 12 true (.op 13 true (.op 14 true (.done)))))))))))))))) (by kernel_rfl) ?_ | with_reducible refine W_region_draw (id := 34) 1 (.op 0 true (.op 1 true (.op 2 true (.op 3 true (.op 4 true (.op 5 true (.op 6 true (.op 7 true (.op 8 true (.op 9 true (.op 10 true (.op 11 true (.op 12 true (.op 13 true (.op 14 true (.op 15 true (.op 16 true (.op 17 true (.op 18 true (.op 19 true (.op 20 true (.done)))))))))))))))))))))) (by kernel_rfl) ?_ | with_reducible refine W_region_draw (id := 37) 9 (.op 0 true (.op 1 true (.op 2 true (.op 3 true (.op 4 true (.op 5 true (.op 6 true (.op 7 true (.op 8 true (.op 9 true (.op 10 true (.op 11 true (.op 12 true (.op 13 true (.op 14 true (.op 15 true (.op 16 true (.op 17 true (.op 18 true (.op 19 true (.op 20 false (.op 21 true (.op 22 true (.op 23 true (.op 24 true (.op 25 true (.op 26 true (.op 27 false (.op 28 true (.op 29 true (.op 30 true (.op 31 false (.op 32 true (.op 33 true (.done))))))))))))))))))))))))))))))))))) (by kernel_rfl) ?_)
    | ((first | (with_reducible apply WL_op; intro nx hnx) | with_reducible refine Ev_out ?_ | (with_reducible apply popsD_op; intro nx hnx) | (with_reducible refine popsD_alt ?_ ?_; intro nx hnx) | (with_reducible refine pfresh_k hnm fun nm hnm => ?_; (try simp only [fmb] at hnm)) | (with_reducible refine pborn_mu hnm fun nm hnm => ?_; (try simp only [fmb] at hnm)) | (with_reducible refine pmaybe_k ?_; intro bn hbn)); try (simp (maxSteps := 2000000) (disch := omega) only [evb, evd, pbuiltin, constPV, pnck, seqK, blockK, scopeK, pbin, pun, ppick, plen, piaddr, pindex, pfield, pslice, pbound, pconv, pelems, pextract, pmm, PV.mem?, PV.one, PV.cells, pageq, peqs, peq1, pmakes, pstore, pbytes, pmark, psrc, pkey, pnile, pcap, pgrow, List.set, Value.cells, ↓popG_eq, ↓pop.eq_1, ↓List.getElem?_map, ↓List.getElem?_cons_zero, ↓List.getElem?_cons_succ, Value.oneCell', Nat.reduceAdd, Nat.reduceMul, Nat.reduceSub, Nat.reduceLeDiff, Nat.reduceEqDiff, ↓reduceIte, ne_eq, reduceCtorEq, forall_const, exists_and_left, exists_eq_left', eq_self, Nat.reduceLT, Int.reduceLT, Int.reduceLE, Int.reduceToNat, Int.reduceAdd, Int.reduceSub, Int.reduceNeg, hnm, Try.tf0, Try.tf1, Try.tf2, Try.tf3, Try.tf4, Try.tf5, Try.tf22, Try.tf23, Try.tf24, Try.tf28, Try.tf33, Try.tf34, Try.tf35, Try.tf44, Try.tf65, Try.teq79, Try.call9, Try.call10, Try.call11, Try.call13, Try.call19, Try.call21, Try.call23, hmx]); repeat (refine And.intro (by omega) ?_))
    | ((with_reducible first | apply WL_nil | apply W_label | apply W_skip | apply W_exit | apply W_ret | apply popsD_done); try simp only [seqK, blockK, scopeK, ↓reduceIte, Nat.reduceEqDiff])
    | with_reducible exact popsD_stop
    | (with_reducible apply pguard_intro <;> (intro hc; (try simp only [hcb, reduceCtorEq, forall_const, ne_eq] at hc); first | (exfalso; omega) | (exfalso; exact hc trivial) | refine Ev_in ?_))
    | (with_reducible apply W_cond_k; intro _ _ ea eb; (simp only [condK, cob, opnd, constPV, Nat.reduceEqDiff, Nat.reduceLT, ↓reduceIte, hcb, reduceCtorEq, forall_const, ne_eq]); subst ea eb; first | (refine ⟨fun hc => ?_, fun hc => ?_⟩ <;> first | (exfalso; omega) | (exfalso; exact hc trivial) | skip) | skip)
    | (with_reducible apply hnx; clear hnx nx)
    | (with_reducible refine And.intro (by omega) ?_)
    | (with_reducible refine And.intro ?_ ?_)
    | ((refine pcall_look k1 c1 ?_; refine Ev_in ?_))
    | ((refine pcall_look k2 c2 ?_; refine Ev_in ?_))
    | (with_reducible refine pcall_k (lv) ?_; rintro _ _ ⟨rfl, rfl⟩ -; refine Ev_in ?_)
    | (clear hnx nx; with_reducible apply hnx; clear hnx nx)
    | (clear hnx nx; clear hnx nx; with_reducible apply hnx; clear hnx nx)
    | (clear hnx nx; clear hnx nx; clear hnx nx; with_reducible apply hnx; clear hnx nx))
    all_goals first
      | exact absurd trivial hc
      | (exfalso
         omega)
      | (refine hfin _ _ (Fin_ret1 rfl (Sub_nil _) ?_); simp only [List.getD_cons_zero, List.getD_cons_succ, fr_getD_cons, fr_getD_nil, Nat.reduceEqDiff, Nat.reduceLT, ↓reduceIte]; first | trivial | exact ⟨rfl, by trivial⟩ | (simp; done) | (simp; omega))
end Go.PM
