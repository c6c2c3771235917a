/- Joined texts (Bd Be Bh Au Aq Av Bf Bg Ay Bb Bc Bi): the machine, the contracts, the laws. Conditions: none but those that each names. -/
import Derived.Test.YthgaoncndnkcmaaDoorJc
set_option linter.unusedSimpArgs false
set_option linter.unusedVariables false
namespace Go.PM
open Go.Proofs
attribute [local irreducible] W PCalls pcall pcallI WL
set_option maxRecDepth 100000
set_option maxHeartbeats 8000000
/-- A number of a machine. -/
@[reducible] def i64 (n : Int) : Prop := -9223372036854775808 ≤ n ∧ n ≤ 9223372036854775807
/-- a number from 0 to below another -/
def arF (n most : Int) : Int := (if n < 0 then -(n + 1) else n) % most
theorem arF_bound (n : Int) {most : Int} (h : 0 < most) : 0 ≤ arF n most ∧ arF n most < most := ⟨Int.emod_nonneg _ (by omega), Int.emod_lt_of_pos _ h⟩
theorem around_c (G : Globs) (n most : Int) (h : 0 < most) (hn : i64 n) (hm : most ≤ 9223372036854775807) : PCalls Tryd.prog G 32 [pint .i64 n, pint .i64 most] [] (fun res H => res = pint .i64 (arF n most) ∧ H = []) := by
  have hb := arF_bound n h
  unfold arF at hb ⊢
  have t1 : (0 - (n + 1)).tmod most = if n < 0 then (-(n + 1)) % most else (0 - (n + 1)).tmod most := by
    split
    · rw [show 0 - (n + 1) = -(n + 1) by omega]
      exact Int.tmod_eq_emod_of_nonneg (by omega)
    · rfl
  have t2 : n.tmod most = if n < 0 then n.tmod most else n % most := by
    split
    · rfl
    · exact Int.tmod_eq_emod_of_nonneg (by omega)
  by_cases h0 : n < 0
  · rw [if_pos h0] at t1 hb ⊢
    generalize (-(n + 1)) % most = r at *
    (refine PCalls_f Tryd.func32 rfl Tryd.ntmps32 Tryd.results32 (by simp) fun fin hfin => ?_; have hnm : True := trivial; simp (maxSteps := 2000000) (disch := omega) only [evb, evd, pbuiltin, constPV, pnck, seqK, blockK, scopeK, pbin, pun, ppick, plen, piaddr, pindex, pfield, pslice, pbound, pconv, pelems, pextract, pmm, PV.mem?, PV.one, PV.cells, pageq, peqs, peq1, pmakes, pstore, pbytes, pmark, pusd, pust, psrc, pkey, pnile, pcap, pgrow, List.set, Value.cells, ↓popG_eq, ↓pop.eq_1, ↓List.getElem?_map, ↓List.getElem?_cons_zero, ↓List.getElem?_cons_succ, Value.oneCell', Nat.reduceAdd, Nat.reduceMul, Nat.reduceSub, Nat.reduceLeDiff, Nat.reduceEqDiff, ↓reduceIte, ne_eq, reduceCtorEq, forall_const, exists_and_left, exists_eq_left', eq_self, Nat.reduceLT, Int.reduceLT, Int.reduceLE, Int.reduceToNat, Int.reduceAdd, Int.reduceSub, Int.reduceNeg, hnm, Tryd.tf3, Tryd.tf4, Tryd.teq45, Tryd.teq94, Tryd.teq104, Tryd.teq113, Tryd.teq114])
    repeat' (first
    | (with_reducible apply W_seq_k; intro nx hnx)
    | (with_reducible first | apply W_block | apply W_scope)
    | (with_reducible refine W_prune 19 ?_; simp only [prb, Nat.reducePow, Nat.reduceDiv, Nat.reduceMod, Nat.reduceBEq]; with_reducible apply W_region_l)
    | ((first | (with_reducible apply WL_op; intro nx hnx) | with_reducible refine Ev_out ?_); try (simp (maxSteps := 2000000) (disch := omega) only [evb, evd, pbuiltin, constPV, pnck, seqK, blockK, scopeK, pbin, pun, ppick, plen, piaddr, pindex, pfield, pslice, pbound, pconv, pelems, pextract, pmm, PV.mem?, PV.one, PV.cells, pageq, peqs, peq1, pmakes, pstore, pbytes, pmark, pusd, pust, psrc, pkey, pnile, pcap, pgrow, List.set, Value.cells, ↓popG_eq, ↓pop.eq_1, ↓List.getElem?_map, ↓List.getElem?_cons_zero, ↓List.getElem?_cons_succ, Value.oneCell', Nat.reduceAdd, Nat.reduceMul, Nat.reduceSub, Nat.reduceLeDiff, Nat.reduceEqDiff, ↓reduceIte, ne_eq, reduceCtorEq, forall_const, exists_and_left, exists_eq_left', eq_self, Nat.reduceLT, Int.reduceLT, Int.reduceLE, Int.reduceToNat, Int.reduceAdd, Int.reduceSub, Int.reduceNeg, hnm, Tryd.tf3, Tryd.tf4, Tryd.teq45, Tryd.teq94, Tryd.teq104, Tryd.teq113, Tryd.teq114, t1]); repeat (refine And.intro (by omega) ?_))
    | ((with_reducible first | apply WL_nil | apply W_label | apply W_skip | apply W_exit | apply W_ret); try simp only [seqK, blockK, scopeK, ↓reduceIte, Nat.reduceEqDiff])
    | (with_reducible apply W_cond_k; intro _ _ ea eb; (simp only [condK, cob, opnd, constPV, Nat.reduceEqDiff, Nat.reduceLT, ↓reduceIte, hcb, reduceCtorEq, forall_const, ne_eq]); subst ea eb; first | (refine ⟨fun hc => ?_, fun hc => ?_⟩ <;> first | (exfalso; omega) | (exfalso; exact hc trivial) | skip) | skip)
    | (with_reducible apply hnx; clear hnx nx)
    | (with_reducible refine And.intro (by omega) ?_)
    | (with_reducible refine And.intro ?_ ?_)
    | (clear hnx nx; with_reducible apply hnx; clear hnx nx)
    | (clear hnx nx; clear hnx nx; with_reducible apply hnx; clear hnx nx)
    | (clear hnx nx; clear hnx nx; clear hnx nx; with_reducible apply hnx; clear hnx nx))
    all_goals first
      | (exfalso
         omega)
      | (refine hfin _ _ (Fin_ret1 rfl (Sub_nil _) ?_); simp only [List.getD_cons_zero, List.getD_cons_succ, fr_getD_cons, fr_getD_nil, Nat.reduceEqDiff, Nat.reduceLT, ↓reduceIte]; first | trivial | exact ⟨rfl, by trivial⟩ | (simp; done) | (simp; omega))
  · rw [if_neg h0] at t2 hb ⊢
    generalize n % most = r at *
    (refine PCalls_f Tryd.func32 rfl Tryd.ntmps32 Tryd.results32 (by simp) fun fin hfin => ?_; have hnm : True := trivial; simp (maxSteps := 2000000) (disch := omega) only [evb, evd, pbuiltin, constPV, pnck, seqK, blockK, scopeK, pbin, pun, ppick, plen, piaddr, pindex, pfield, pslice, pbound, pconv, pelems, pextract, pmm, PV.mem?, PV.one, PV.cells, pageq, peqs, peq1, pmakes, pstore, pbytes, pmark, pusd, pust, psrc, pkey, pnile, pcap, pgrow, List.set, Value.cells, ↓popG_eq, ↓pop.eq_1, ↓List.getElem?_map, ↓List.getElem?_cons_zero, ↓List.getElem?_cons_succ, Value.oneCell', Nat.reduceAdd, Nat.reduceMul, Nat.reduceSub, Nat.reduceLeDiff, Nat.reduceEqDiff, ↓reduceIte, ne_eq, reduceCtorEq, forall_const, exists_and_left, exists_eq_left', eq_self, Nat.reduceLT, Int.reduceLT, Int.reduceLE, Int.reduceToNat, Int.reduceAdd, Int.reduceSub, Int.reduceNeg, hnm, Tryd.tf3, Tryd.tf4, Tryd.teq45, Tryd.teq94, Tryd.teq104, Tryd.teq113, Tryd.teq114])
    repeat' (first
    | (with_reducible apply W_seq_k; intro nx hnx)
    | (with_reducible first | apply W_block | apply W_scope)
    | (with_reducible refine W_prune 19 ?_; simp only [prb, Nat.reducePow, Nat.reduceDiv, Nat.reduceMod, Nat.reduceBEq]; with_reducible apply W_region_l)
    | ((first | (with_reducible apply WL_op; intro nx hnx) | with_reducible refine Ev_out ?_); try (simp (maxSteps := 2000000) (disch := omega) only [evb, evd, pbuiltin, constPV, pnck, seqK, blockK, scopeK, pbin, pun, ppick, plen, piaddr, pindex, pfield, pslice, pbound, pconv, pelems, pextract, pmm, PV.mem?, PV.one, PV.cells, pageq, peqs, peq1, pmakes, pstore, pbytes, pmark, pusd, pust, psrc, pkey, pnile, pcap, pgrow, List.set, Value.cells, ↓popG_eq, ↓pop.eq_1, ↓List.getElem?_map, ↓List.getElem?_cons_zero, ↓List.getElem?_cons_succ, Value.oneCell', Nat.reduceAdd, Nat.reduceMul, Nat.reduceSub, Nat.reduceLeDiff, Nat.reduceEqDiff, ↓reduceIte, ne_eq, reduceCtorEq, forall_const, exists_and_left, exists_eq_left', eq_self, Nat.reduceLT, Int.reduceLT, Int.reduceLE, Int.reduceToNat, Int.reduceAdd, Int.reduceSub, Int.reduceNeg, hnm, Tryd.tf3, Tryd.tf4, Tryd.teq45, Tryd.teq94, Tryd.teq104, Tryd.teq113, Tryd.teq114, t2]); repeat (refine And.intro (by omega) ?_))
    | ((with_reducible first | apply WL_nil | apply W_label | apply W_skip | apply W_exit | apply W_ret); try simp only [seqK, blockK, scopeK, ↓reduceIte, Nat.reduceEqDiff])
    | (with_reducible apply W_cond_k; intro _ _ ea eb; (simp only [condK, cob, opnd, constPV, Nat.reduceEqDiff, Nat.reduceLT, ↓reduceIte, hcb, reduceCtorEq, forall_const, ne_eq]); subst ea eb; first | (refine ⟨fun hc => ?_, fun hc => ?_⟩ <;> first | (exfalso; omega) | (exfalso; exact hc trivial) | skip) | skip)
    | (with_reducible apply hnx; clear hnx nx)
    | (with_reducible refine And.intro (by omega) ?_)
    | (with_reducible refine And.intro ?_ ?_)
    | (clear hnx nx; with_reducible apply hnx; clear hnx nx)
    | (clear hnx nx; clear hnx nx; with_reducible apply hnx; clear hnx nx)
    | (clear hnx nx; clear hnx nx; clear hnx nx; with_reducible apply hnx; clear hnx nx))
    all_goals first
      | (exfalso
         omega)
      | (refine hfin _ _ (Fin_ret1 rfl (Sub_nil _) ?_); simp only [List.getD_cons_zero, List.getD_cons_succ, fr_getD_cons, fr_getD_nil, Nat.reduceEqDiff, Nat.reduceLT, ↓reduceIte]; first | trivial | exact ⟨rfl, by trivial⟩ | (simp; done) | (simp; omega))
/-- a number of a list, from 0 to below another -/
def atF (l : List Int) (i : Nat) (most : Int) : Int := if i < l.length then arF (l.getD i 0) most else 0
theorem atF_bound (l : List Int) (i : Nat) {most : Int} (h : 0 < most) : 0 ≤ atF l i most ∧ atF l i most < most := by
  unfold atF
  split
  · exact arF_bound _ h
  · omega
/-- Numbers of a machine. -/
@[reducible] def okI (l : List Int) : Prop := (l.length : Int) ≤ 9223372036854775807 ∧ ∀ x ∈ l, i64 x
theorem okI_get {l : List Int} (hl : okI l) (i : Nat) : i64 (l.getD i 0) := by
  by_cases hi : i < l.length
  · have : l.getD i 0 = l[i] := by simp [hi]
    rw [this]
    exact hl.2 _ (List.getElem_mem hi)
  · have : l.getD i 0 = 0 := by simp [Nat.le_of_not_lt hi]
    rw [this]
    exact ⟨by omega, by omega⟩
theorem at_c (G : Globs) (l : List Int) (hl : okI l) (i : Nat) (most : Int) (h : 0 < most) (hm : most ≤ 9223372036854775807) :
    PCalls Tryd.prog G 30 [wP l, pn i, pint .i64 most] [] (fun res H => res = pint .i64 (atF l i most) ∧ H = []) := by
  by_cases hi : i < l.length
  · have c1 := around_c G (l.getD i 0) most h (okI_get hl i) hm
    have hg : l[i] = l.getD i 0 := by simp [hi]
    have hl1 := hl.1
    rw [atF, if_pos hi]
    generalize l.getD i 0 = x at *
    (refine PCalls_f Tryd.func30 rfl Tryd.ntmps30 Tryd.results30 (by simp) fun fin hfin => ?_; have hnm : True := trivial; simp (maxSteps := 2000000) (disch := omega) only [evb, evd, pbuiltin, constPV, pnck, seqK, blockK, scopeK, pbin, pun, ppick, plen, piaddr, pindex, pfield, pslice, pbound, pconv, pelems, pextract, pmm, PV.mem?, PV.one, PV.cells, pageq, peqs, peq1, pmakes, pstore, pbytes, pmark, pusd, pust, psrc, pkey, pnile, pcap, pgrow, List.set, Value.cells, ↓popG_eq, ↓pop.eq_1, ↓List.getElem?_map, ↓List.getElem?_cons_zero, ↓List.getElem?_cons_succ, Value.oneCell', Nat.reduceAdd, Nat.reduceMul, Nat.reduceSub, Nat.reduceLeDiff, Nat.reduceEqDiff, ↓reduceIte, ne_eq, reduceCtorEq, forall_const, exists_and_left, exists_eq_left', eq_self, Nat.reduceLT, Int.reduceLT, Int.reduceLE, Int.reduceToNat, Int.reduceAdd, Int.reduceSub, Int.reduceNeg, hnm, Tryd.tf0, Tryd.tf3, Tryd.tf4, Tryd.tf22, Tryd.teq45, Tryd.teq94, Tryd.teq104, Tryd.teq113, Tryd.teq114, Tryd.call32])
    repeat' (first
    | (with_reducible apply W_seq_k; intro nx hnx)
    | (with_reducible first | apply W_block | apply W_scope)
    | (with_reducible refine W_prune 71 ?_; simp only [prb, Nat.reducePow, Nat.reduceDiv, Nat.reduceMod, Nat.reduceBEq]; with_reducible apply W_region_l)
    | ((first | (with_reducible apply WL_op; intro nx hnx) | with_reducible refine Ev_out ?_); try (simp (maxSteps := 2000000) (disch := omega) only [evb, evd, pbuiltin, constPV, pnck, seqK, blockK, scopeK, pbin, pun, ppick, plen, piaddr, pindex, pfield, pslice, pbound, pconv, pelems, pextract, pmm, PV.mem?, PV.one, PV.cells, pageq, peqs, peq1, pmakes, pstore, pbytes, pmark, pusd, pust, psrc, pkey, pnile, pcap, pgrow, List.set, Value.cells, ↓popG_eq, ↓pop.eq_1, ↓List.getElem?_map, ↓List.getElem?_cons_zero, ↓List.getElem?_cons_succ, Value.oneCell', Nat.reduceAdd, Nat.reduceMul, Nat.reduceSub, Nat.reduceLeDiff, Nat.reduceEqDiff, ↓reduceIte, ne_eq, reduceCtorEq, forall_const, exists_and_left, exists_eq_left', eq_self, Nat.reduceLT, Int.reduceLT, Int.reduceLE, Int.reduceToNat, Int.reduceAdd, Int.reduceSub, Int.reduceNeg, hnm, Tryd.tf0, Tryd.tf3, Tryd.tf4, Tryd.tf22, Tryd.teq45, Tryd.teq94, Tryd.teq104, Tryd.teq113, Tryd.teq114, Tryd.call32, hg]); repeat (refine And.intro (by omega) ?_))
    | ((with_reducible first | apply WL_nil | apply W_label | apply W_skip | apply W_exit | apply W_ret); try simp only [seqK, blockK, scopeK, ↓reduceIte, Nat.reduceEqDiff])
    | (with_reducible apply pguard_intro <;> (intro hc; (try simp only [hcb, reduceCtorEq, forall_const, ne_eq] at hc); first | (exfalso; omega) | (exfalso; exact hc trivial) | refine Ev_in ?_))
    | (with_reducible apply W_cond_k; intro _ _ ea eb; (simp only [condK, cob, opnd, constPV, Nat.reduceEqDiff, Nat.reduceLT, ↓reduceIte, hcb, reduceCtorEq, forall_const, ne_eq]); subst ea eb; first | (refine ⟨fun hc => ?_, fun hc => ?_⟩ <;> first | (exfalso; omega) | (exfalso; exact hc trivial) | skip) | skip)
    | (with_reducible apply hnx; clear hnx nx)
    | (with_reducible refine And.intro (by omega) ?_)
    | (with_reducible refine And.intro ?_ ?_)
    | (with_reducible refine pcall_k (c1) ?_; rintro _ _ ⟨rfl, rfl⟩ -; refine Ev_in ?_)
    | (clear hnx nx; with_reducible apply hnx; clear hnx nx)
    | (clear hnx nx; clear hnx nx; with_reducible apply hnx; clear hnx nx)
    | (clear hnx nx; clear hnx nx; clear hnx nx; with_reducible apply hnx; clear hnx nx))
    all_goals first
      | (exfalso
         omega)
      | (refine hfin _ _ (Fin_ret1 rfl (Sub_nil _) ?_); simp only [List.getD_cons_zero, List.getD_cons_succ, fr_getD_cons, fr_getD_nil, Nat.reduceEqDiff, Nat.reduceLT, ↓reduceIte]; first | trivial | exact ⟨rfl, by trivial⟩ | (simp; done) | (simp; omega))
  · rw [atF, if_neg hi]
    (refine PCalls_f Tryd.func30 rfl Tryd.ntmps30 Tryd.results30 (by simp) fun fin hfin => ?_; have hnm : True := trivial; simp (maxSteps := 2000000) (disch := omega) only [evb, evd, pbuiltin, constPV, pnck, seqK, blockK, scopeK, pbin, pun, ppick, plen, piaddr, pindex, pfield, pslice, pbound, pconv, pelems, pextract, pmm, PV.mem?, PV.one, PV.cells, pageq, peqs, peq1, pmakes, pstore, pbytes, pmark, pusd, pust, psrc, pkey, pnile, pcap, pgrow, List.set, Value.cells, ↓popG_eq, ↓pop.eq_1, ↓List.getElem?_map, ↓List.getElem?_cons_zero, ↓List.getElem?_cons_succ, Value.oneCell', Nat.reduceAdd, Nat.reduceMul, Nat.reduceSub, Nat.reduceLeDiff, Nat.reduceEqDiff, ↓reduceIte, ne_eq, reduceCtorEq, forall_const, exists_and_left, exists_eq_left', eq_self, Nat.reduceLT, Int.reduceLT, Int.reduceLE, Int.reduceToNat, Int.reduceAdd, Int.reduceSub, Int.reduceNeg, hnm, Tryd.tf0, Tryd.tf3, Tryd.tf4, Tryd.tf22, Tryd.teq45, Tryd.teq94, Tryd.teq104, Tryd.teq113, Tryd.teq114, Tryd.call32])
    repeat' (first
    | (with_reducible apply W_seq_k; intro nx hnx)
    | (with_reducible first | apply W_block | apply W_scope)
    | (with_reducible refine W_prune 71 ?_; simp only [prb, Nat.reducePow, Nat.reduceDiv, Nat.reduceMod, Nat.reduceBEq]; with_reducible apply W_region_l)
    | ((first | (with_reducible apply WL_op; intro nx hnx) | with_reducible refine Ev_out ?_); try (simp (maxSteps := 2000000) (disch := omega) only [evb, evd, pbuiltin, constPV, pnck, seqK, blockK, scopeK, pbin, pun, ppick, plen, piaddr, pindex, pfield, pslice, pbound, pconv, pelems, pextract, pmm, PV.mem?, PV.one, PV.cells, pageq, peqs, peq1, pmakes, pstore, pbytes, pmark, pusd, pust, psrc, pkey, pnile, pcap, pgrow, List.set, Value.cells, ↓popG_eq, ↓pop.eq_1, ↓List.getElem?_map, ↓List.getElem?_cons_zero, ↓List.getElem?_cons_succ, Value.oneCell', Nat.reduceAdd, Nat.reduceMul, Nat.reduceSub, Nat.reduceLeDiff, Nat.reduceEqDiff, ↓reduceIte, ne_eq, reduceCtorEq, forall_const, exists_and_left, exists_eq_left', eq_self, Nat.reduceLT, Int.reduceLT, Int.reduceLE, Int.reduceToNat, Int.reduceAdd, Int.reduceSub, Int.reduceNeg, hnm, Tryd.tf0, Tryd.tf3, Tryd.tf4, Tryd.tf22, Tryd.teq45, Tryd.teq94, Tryd.teq104, Tryd.teq113, Tryd.teq114, Tryd.call32]); repeat (refine And.intro (by omega) ?_))
    | ((with_reducible first | apply WL_nil | apply W_label | apply W_skip | apply W_exit | apply W_ret); try simp only [seqK, blockK, scopeK, ↓reduceIte, Nat.reduceEqDiff])
    | (with_reducible apply pguard_intro <;> (intro hc; (try simp only [hcb, reduceCtorEq, forall_const, ne_eq] at hc); first | (exfalso; omega) | (exfalso; exact hc trivial) | refine Ev_in ?_))
    | (with_reducible apply W_cond_k; intro _ _ ea eb; (simp only [condK, cob, opnd, constPV, Nat.reduceEqDiff, Nat.reduceLT, ↓reduceIte, hcb, reduceCtorEq, forall_const, ne_eq]); subst ea eb; first | (refine ⟨fun hc => ?_, fun hc => ?_⟩ <;> first | (exfalso; omega) | (exfalso; exact hc trivial) | skip) | skip)
    | (with_reducible apply hnx; clear hnx nx)
    | (with_reducible refine And.intro (by omega) ?_)
    | (with_reducible refine And.intro ?_ ?_)
    | (clear hnx nx; with_reducible apply hnx; clear hnx nx)
    | (clear hnx nx; clear hnx nx; with_reducible apply hnx; clear hnx nx)
    | (clear hnx nx; clear hnx nx; clear hnx nx; with_reducible apply hnx; clear hnx nx))
    all_goals first
      | (exfalso
         omega)
      | (refine hfin _ _ (Fin_ret1 rfl (Sub_nil _) ?_); simp only [List.getD_cons_zero, List.getD_cons_succ, fr_getD_cons, fr_getD_nil, Nat.reduceEqDiff, Nat.reduceLT, ↓reduceIte]; first | trivial | exact ⟨rfl, by trivial⟩ | (simp; done) | (simp; omega))
/-- The texts of letters. -/
def poolL : List (List UInt8) := [[97], [98], [99], [101], [105], [110], [115], [116], [99, 104], [195, 169], [65], [115, 99, 104], [104], [108], [195, 182], [117]]
theorem pool_c (G : Globs) (n : Nat) (hn : n < 16) : PCalls Tryd.prog G 31 [pn n] [] (fun res H => res = pstr (poolL.getD n []) ∧ H = []) := by
  have hget : ([PV.val (.string ⟨#[97]⟩), PV.val (.string ⟨#[98]⟩), PV.val (.string ⟨#[99]⟩), PV.val (.string ⟨#[101]⟩), PV.val (.string ⟨#[105]⟩), PV.val (.string ⟨#[110]⟩), PV.val (.string ⟨#[115]⟩), PV.val (.string ⟨#[116]⟩), PV.val (.string ⟨#[99, 104]⟩), PV.val (.string ⟨#[195, 169]⟩), PV.val (.string ⟨#[65]⟩), PV.val (.string ⟨#[115, 99, 104]⟩), PV.val (.string ⟨#[104]⟩), PV.val (.string ⟨#[108]⟩), PV.val (.string ⟨#[195, 182]⟩), PV.val (.string ⟨#[117]⟩)] : List PV).getD n PV.junk = pstr (poolL.getD n []) := by
    show (poolL.map pstr).getD n PV.junk = pstr (poolL.getD n [])
    have hl : n < poolL.length := hn
    rw [List.getD_eq_getElem?_getD, List.getD_eq_getElem?_getD, List.getElem?_map, List.getElem?_eq_getElem hl]
    rfl
  generalize poolL.getD n [] = q at *
  (refine PCalls_f Tryd.func31 rfl Tryd.ntmps31 Tryd.results31 (by simp) fun fin hfin => ?_; have hnm : True := trivial; simp (maxSteps := 2000000) (disch := omega) only [evb, evd, pbuiltin, constPV, pnck, seqK, blockK, scopeK, pbin, pun, ppick, plen, piaddr, pindex, pfield, pslice, pbound, pconv, pelems, pextract, pmm, PV.mem?, PV.one, PV.cells, pageq, peqs, peq1, pmakes, pstore, pbytes, pmark, pusd, pust, psrc, pkey, pnile, pcap, pgrow, List.set, Value.cells, ↓popG_eq, ↓pop.eq_1, ↓List.getElem?_map, ↓List.getElem?_cons_zero, ↓List.getElem?_cons_succ, Value.oneCell', Nat.reduceAdd, Nat.reduceMul, Nat.reduceSub, Nat.reduceLeDiff, Nat.reduceEqDiff, ↓reduceIte, ne_eq, reduceCtorEq, forall_const, exists_and_left, exists_eq_left', eq_self, Nat.reduceLT, Int.reduceLT, Int.reduceLE, Int.reduceToNat, Int.reduceAdd, Int.reduceSub, Int.reduceNeg, hnm, Tryd.tf0, Tryd.tf3, Tryd.tf9, Tryd.tf16, Tryd.tf26, Tryd.teq45, Tryd.teq94, Tryd.teq104, Tryd.teq113, Tryd.teq114, Tryd.tf119])
  repeat' (first
    | (with_reducible apply W_seq_k; intro nx hnx)
    | (with_reducible first | apply W_block | apply W_scope)
    | (with_reducible refine W_prune 5 ?_; simp only [prb, Nat.reducePow, Nat.reduceDiv, Nat.reduceMod, Nat.reduceBEq]; with_reducible apply W_region_l)
    | (with_reducible refine WL_born (by simp) rfl (by simp) ?_; simp only [elemsOf, nl, List.map_cons, List.map_nil, Nat.reduceEqDiff, ↓reduceIte, List.take_succ_cons, List.take_zero, List.range_succ, List.range_zero, List.nil_append, List.cons_append, List.map_append, List.drop_succ_cons, List.drop_zero, Nat.reduceMul, Nat.zero_mul, Nat.one_mul, Nat.reduceAdd])
    | ((first | (with_reducible apply WL_op; intro nx hnx) | with_reducible refine Ev_out ?_ | (with_reducible refine pfresh_k hnm fun nm hnm => ?_; (try simp only [fmb] at hnm)) | (with_reducible refine pborn_im ?_; simp only [elemsOf, nl, List.map_cons, List.map_nil, Nat.reduceEqDiff, ↓reduceIte, List.take_succ_cons, List.take_zero, List.range_succ, List.range_zero, List.nil_append, List.cons_append, List.map_append, List.drop_succ_cons, List.drop_zero, Nat.reduceMul, Nat.zero_mul, Nat.one_mul, Nat.reduceAdd])); try (simp (maxSteps := 2000000) (disch := omega) only [evb, evd, pbuiltin, constPV, pnck, seqK, blockK, scopeK, pbin, pun, ppick, plen, piaddr, pindex, pfield, pslice, pbound, pconv, pelems, pextract, pmm, PV.mem?, PV.one, PV.cells, pageq, peqs, peq1, pmakes, pstore, pbytes, pmark, pusd, pust, psrc, pkey, pnile, pcap, pgrow, List.set, Value.cells, ↓popG_eq, ↓pop.eq_1, ↓List.getElem?_map, ↓List.getElem?_cons_zero, ↓List.getElem?_cons_succ, Value.oneCell', Nat.reduceAdd, Nat.reduceMul, Nat.reduceSub, Nat.reduceLeDiff, Nat.reduceEqDiff, ↓reduceIte, ne_eq, reduceCtorEq, forall_const, exists_and_left, exists_eq_left', eq_self, Nat.reduceLT, Int.reduceLT, Int.reduceLE, Int.reduceToNat, Int.reduceAdd, Int.reduceSub, Int.reduceNeg, hnm, Tryd.tf0, Tryd.tf3, Tryd.tf9, Tryd.tf16, Tryd.tf26, Tryd.teq45, Tryd.teq94, Tryd.teq104, Tryd.teq113, Tryd.teq114, Tryd.tf119, hget]); repeat (refine And.intro (by omega) ?_))
    | ((with_reducible first | apply WL_nil | apply W_label | apply W_skip | apply W_exit | apply W_ret); try simp only [seqK, blockK, scopeK, ↓reduceIte, Nat.reduceEqDiff])
    | (with_reducible apply W_cond_k; intro _ _ ea eb; (simp only [condK, cob, opnd, constPV, Nat.reduceEqDiff, Nat.reduceLT, ↓reduceIte, hcb, reduceCtorEq, forall_const, ne_eq]); subst ea eb; first | (refine ⟨fun hc => ?_, fun hc => ?_⟩ <;> first | (exfalso; omega) | (exfalso; exact hc trivial) | skip) | skip)
    | (with_reducible apply hnx; clear hnx nx)
    | (with_reducible refine And.intro (by omega) ?_)
    | (with_reducible refine And.intro ?_ ?_)
    | (clear hnx nx; with_reducible apply hnx; clear hnx nx)
    | (clear hnx nx; clear hnx nx; with_reducible apply hnx; clear hnx nx)
    | (clear hnx nx; clear hnx nx; clear hnx nx; with_reducible apply hnx; clear hnx nx))
  all_goals first | exact absurd trivial hc | contradiction | exact fun h => False.elim h | (exfalso; omega) | (exfalso; have hc := of_decide_eq_false hc; omega) | (exfalso; simp only [Bool.not_false, Bool.not_true, decide_eq_true_eq, decide_eq_false_iff_not] at *; omega) | skip
  all_goals (refine hfin _ _ (Fin_ret1 rfl (Sub_nil _) ?_); simp only [List.getD_cons_zero, List.getD_cons_succ, fr_getD_cons, fr_getD_nil, Nat.reduceEqDiff, Nat.reduceLT, ↓reduceIte]; first | trivial | exact ⟨rfl, by trivial⟩ | (simp; done) | (simp; omega))
theorem pool_len (n : Nat) : (poolL.getD n []).length ≤ 3 := by
  have h : ∀ x ∈ poolL, x.length ≤ 3 := by decide
  by_cases hl : n < poolL.length
  · rw [List.getD_eq_getElem?_getD, List.getElem?_eq_getElem hl]
    exact h _ (List.getElem_mem hl)
  · rw [List.getD_eq_getElem?_getD, List.getElem?_eq_none (by omega)]
    simp
theorem short_c (G : Globs) (s : List UInt8) (m : Nat) (hm : (m : Int) ≤ 9223372036854775807) : PCalls Tryd.prog G 11 [pstr s, pn m] [] (fun res H => res = pstr (s.take m) ∧ H = []) := by
  (refine PCalls_f Tryd.func11 rfl Tryd.ntmps11 Tryd.results11 (by simp) fun fin hfin => ?_; have hnm : True := trivial; simp (maxSteps := 2000000) (disch := omega) only [evb, evd, pbuiltin, constPV, pnck, seqK, blockK, scopeK, pbin, pun, ppick, plen, piaddr, pindex, pfield, pslice, pbound, pconv, pelems, pextract, pmm, PV.mem?, PV.one, PV.cells, pageq, peqs, peq1, pmakes, pstore, pbytes, pmark, pusd, pust, psrc, pkey, pnile, pcap, pgrow, List.set, Value.cells, ↓popG_eq, ↓pop.eq_1, ↓List.getElem?_map, ↓List.getElem?_cons_zero, ↓List.getElem?_cons_succ, Value.oneCell', Nat.reduceAdd, Nat.reduceMul, Nat.reduceSub, Nat.reduceLeDiff, Nat.reduceEqDiff, ↓reduceIte, ne_eq, reduceCtorEq, forall_const, exists_and_left, exists_eq_left', eq_self, Nat.reduceLT, Int.reduceLT, Int.reduceLE, Int.reduceToNat, Int.reduceAdd, Int.reduceSub, Int.reduceNeg, hnm, Tryd.tf3, Tryd.tf4, Tryd.tf9, Tryd.teq45, Tryd.teq94, Tryd.teq104, Tryd.teq113, Tryd.teq114])
  repeat' (first
    | (with_reducible apply W_seq_k; intro nx hnx)
    | (with_reducible first | apply W_block | apply W_scope)
    | (with_reducible refine W_prune 19 ?_; simp only [prb, Nat.reducePow, Nat.reduceDiv, Nat.reduceMod, Nat.reduceBEq]; with_reducible apply W_region_l)
    | ((first | (with_reducible apply WL_op; intro nx hnx) | with_reducible refine Ev_out ?_); try (simp (maxSteps := 2000000) (disch := omega) only [evb, evd, pbuiltin, constPV, pnck, seqK, blockK, scopeK, pbin, pun, ppick, plen, piaddr, pindex, pfield, pslice, pbound, pconv, pelems, pextract, pmm, PV.mem?, PV.one, PV.cells, pageq, peqs, peq1, pmakes, pstore, pbytes, pmark, pusd, pust, psrc, pkey, pnile, pcap, pgrow, List.set, Value.cells, ↓popG_eq, ↓pop.eq_1, ↓List.getElem?_map, ↓List.getElem?_cons_zero, ↓List.getElem?_cons_succ, Value.oneCell', Nat.reduceAdd, Nat.reduceMul, Nat.reduceSub, Nat.reduceLeDiff, Nat.reduceEqDiff, ↓reduceIte, ne_eq, reduceCtorEq, forall_const, exists_and_left, exists_eq_left', eq_self, Nat.reduceLT, Int.reduceLT, Int.reduceLE, Int.reduceToNat, Int.reduceAdd, Int.reduceSub, Int.reduceNeg, hnm, Tryd.tf3, Tryd.tf4, Tryd.tf9, Tryd.teq45, Tryd.teq94, Tryd.teq104, Tryd.teq113, Tryd.teq114]); repeat (refine And.intro (by omega) ?_))
    | ((with_reducible first | apply WL_nil | apply W_label | apply W_skip | apply W_exit | apply W_ret); try simp only [seqK, blockK, scopeK, ↓reduceIte, Nat.reduceEqDiff])
    | (with_reducible apply W_cond_k; intro _ _ ea eb; (simp only [condK, cob, opnd, constPV, Nat.reduceEqDiff, Nat.reduceLT, ↓reduceIte, hcb, reduceCtorEq, forall_const, ne_eq]); subst ea eb; first | (refine ⟨fun hc => ?_, fun hc => ?_⟩ <;> first | (exfalso; omega) | (exfalso; exact hc trivial) | skip) | skip)
    | (with_reducible apply hnx; clear hnx nx)
    | (with_reducible refine And.intro (by omega) ?_)
    | (with_reducible refine And.intro ?_ ?_)
    | (clear hnx nx; with_reducible apply hnx; clear hnx nx)
    | (clear hnx nx; clear hnx nx; with_reducible apply hnx; clear hnx nx)
    | (clear hnx nx; clear hnx nx; clear hnx nx; with_reducible apply hnx; clear hnx nx))
  all_goals first | exact absurd trivial hc | contradiction | exact fun h => False.elim h | (exfalso; omega) | (exfalso; have hc := of_decide_eq_false hc; omega) | (exfalso; simp only [Bool.not_false, Bool.not_true, decide_eq_true_eq, decide_eq_false_iff_not] at *; omega) | skip
  · (refine hfin _ _ (Fin_ret1 rfl (Sub_nil _) ?_); simp only [List.getD_cons_zero, List.getD_cons_succ, fr_getD_cons, fr_getD_nil, Nat.reduceEqDiff, Nat.reduceLT, ↓reduceIte]; first | trivial | exact ⟨rfl, by trivial⟩ | (simp; done) | (simp; omega))
  · refine hfin _ _ (Fin_ret1 rfl (Sub_nil _) ?_); simp only [List.getD_cons_zero, List.getD_cons_succ, fr_getD_cons, fr_getD_nil, Nat.reduceEqDiff, Nat.reduceLT, ↓reduceIte]
    exact ⟨by rw [List.take_of_length_le (by omega)], by trivial⟩
end Go.PM

namespace Go.PM
open Go.Proofs
attribute [local irreducible] W PCalls pcall pcallI WL
set_option maxRecDepth 100000
set_option maxHeartbeats 8000000
/-- The letter with the number i of the alphabet that l makes, behind the letters a. -/
def mkL (l : List Int) (i : Nat) (a : List Ltr) : Ltr :=
  if 0 < i ∧ atF l (10 + i) 3 = 1 then ⟨poolL.getD (((atF l 1 16).toNat + i) % 16) [], (a.getD (atF l (20 + i) i).toNat default).base, atF l (30 + i) 4, atF l (40 + i) 2, 1 + atF l (2 + i) 9⟩
  else ⟨poolL.getD (((atF l 1 16).toNat + i) % 16) [], i, 0, 0, 1 + atF l (2 + i) 9⟩
def mkA (l : List Int) : Nat → List Ltr
  | 0 => []
  | i + 1 => mkA l i ++ [mkL l i (mkA l i)]
def lettersF (l : List Int) : List Ltr := mkA l (3 + (atF l 0 6).toNat)
theorem mkA_len (l : List Int) : ∀ n, (mkA l n).length = n
  | 0 => rfl
  | n + 1 => by rw [mkA, List.length_append, mkA_len l n]; rfl
theorem letters_r (G : Globs) (l : List Int) (hl : okI l) : PCalls Tryd.prog G 9 [wP l] [] (fun res H => ∃ n : Int, res = .row n 5 (lettersF l).length ∧ H = [(n, ⟨45, true, 5, flatL (lettersF l)⟩)]) := by
  have b0 := atF_bound l 0 (most := 6) (by omega)
  have b1 := atF_bound l 1 (most := 16) (by omega)
  have c0 := at_c G l hl 0 6 (by omega) (by omega)
  have c1 := at_c G l hl 1 16 (by omega) (by omega)
  have c0 : PCalls Tryd.prog G 30 [wP l, .val (.int .i64 0), .val (.int .i64 6)] [] _ := c0
  have c1 : PCalls Tryd.prog G 30 [wP l, .val (.int .i64 1), .val (.int .i64 16)] [] _ := c1
  obtain ⟨n0, hn0⟩ : ∃ n : Nat, n = (atF l 0 6).toNat := ⟨_, rfl⟩
  obtain ⟨s0, hs0⟩ : ∃ n : Nat, n = (atF l 1 16).toNat := ⟨_, rfl⟩
  have e0 : atF l 0 6 = (n0 : Int) := by omega
  have e1 : atF l 1 16 = (s0 : Int) := by omega
  rw [e0] at c0
  rw [e1] at c1
  unfold lettersF
  rw [mkA_len, ← hn0]
  have hdef : ∀ i a, mkL l i a = if 0 < i ∧ atF l (10 + i) 3 = 1 then ⟨poolL.getD ((s0 + i) % 16) [], (a.getD (atF l (20 + i) i).toNat default).base, atF l (30 + i) 4, atF l (40 + i) 2, 1 + atF l (2 + i) 9⟩
      else ⟨poolL.getD ((s0 + i) % 16) [], i, 0, 0, 1 + atF l (2 + i) 9⟩ := fun i a => by rw [mkL, ← hs0]
  (refine PCalls_f Tryd.func9 rfl Tryd.ntmps9 Tryd.results9 (by simp) fun fin hfin => ?_; have hnm : True := trivial; simp (maxSteps := 2000000) (disch := omega) only [evb, evd, pbuiltin, constPV, pnck, seqK, blockK, scopeK, pbin, pun, ppick, plen, piaddr, pindex, pfield, pslice, pbound, pconv, pelems, pextract, pmm, PV.mem?, PV.one, PV.cells, pageq, peqs, peq1, pmakes, pstore, pbytes, pmark, pusd, pust, psrc, pkey, pnile, pcap, pgrow, List.set, Value.cells, ↓popG_eq, ↓pop.eq_1, ↓List.getElem?_map, ↓List.getElem?_cons_zero, ↓List.getElem?_cons_succ, Value.oneCell', Nat.reduceAdd, Nat.reduceMul, Nat.reduceSub, Nat.reduceLeDiff, Nat.reduceEqDiff, ↓reduceIte, ne_eq, reduceCtorEq, forall_const, exists_and_left, exists_eq_left', eq_self, Nat.reduceLT, Int.reduceLT, Int.reduceLE, Int.reduceToNat, Int.reduceAdd, Int.reduceSub, Int.reduceNeg, hnm, Tryd.tf0, Tryd.tf1, Tryd.tf2, Tryd.tf3, Tryd.tf4, Tryd.tf9, Tryd.tf22, Tryd.tf23, Tryd.tf45, Tryd.teq45, Tryd.teq94, Tryd.teq104, Tryd.teq113, Tryd.teq114, Tryd.call30, Tryd.call31])
  repeat' (first
    | (with_reducible apply W_seq_k; intro nx hnx)
    | (with_reducible first | apply W_block | apply W_scope)
    | (with_reducible refine W_prune 253 ?_; simp only [prb, Nat.reducePow, Nat.reduceDiv, Nat.reduceMod, Nat.reduceBEq]; with_reducible apply W_region_l)
    | ((first | (with_reducible apply WL_op; intro nx hnx) | with_reducible refine Ev_out ?_ | (with_reducible refine pfresh_k hnm fun nm hnm => ?_; (try simp only [fmb] at hnm)) | (with_reducible refine pborn_mu hnm fun nm hnm => ?_; (try simp only [fmb] at hnm)) | (with_reducible refine pmaybe_k ?_; intro bn hbn)); try (simp (maxSteps := 2000000) (disch := omega) only [evb, evd, pbuiltin, constPV, pnck, seqK, blockK, scopeK, pbin, pun, ppick, plen, piaddr, pindex, pfield, pslice, pbound, pconv, pelems, pextract, pmm, PV.mem?, PV.one, PV.cells, pageq, peqs, peq1, pmakes, pstore, pbytes, pmark, pusd, pust, psrc, pkey, pnile, pcap, pgrow, List.set, Value.cells, ↓popG_eq, ↓pop.eq_1, ↓List.getElem?_map, ↓List.getElem?_cons_zero, ↓List.getElem?_cons_succ, Value.oneCell', Nat.reduceAdd, Nat.reduceMul, Nat.reduceSub, Nat.reduceLeDiff, Nat.reduceEqDiff, ↓reduceIte, ne_eq, reduceCtorEq, forall_const, exists_and_left, exists_eq_left', eq_self, Nat.reduceLT, Int.reduceLT, Int.reduceLE, Int.reduceToNat, Int.reduceAdd, Int.reduceSub, Int.reduceNeg, hnm, Tryd.tf0, Tryd.tf1, Tryd.tf2, Tryd.tf3, Tryd.tf4, Tryd.tf9, Tryd.tf22, Tryd.tf23, Tryd.tf45, Tryd.teq45, Tryd.teq94, Tryd.teq104, Tryd.teq113, Tryd.teq114, Tryd.call30, Tryd.call31]); repeat (refine And.intro (by omega) ?_))
    | ((with_reducible first | apply WL_nil | apply W_label | apply W_skip | apply W_exit | apply W_ret); try simp only [seqK, blockK, scopeK, ↓reduceIte, Nat.reduceEqDiff])
    | (with_reducible apply pguard_intro <;> (intro hc; (try simp only [hcb, reduceCtorEq, forall_const, ne_eq] at hc); first | (exfalso; omega) | (exfalso; exact hc trivial) | refine Ev_in ?_))
    | (with_reducible apply W_cond_k; intro _ _ ea eb; (simp only [condK, cob, opnd, constPV, Nat.reduceEqDiff, Nat.reduceLT, ↓reduceIte, hcb, reduceCtorEq, forall_const, ne_eq]); subst ea eb; first | (refine ⟨fun hc => ?_, fun hc => ?_⟩ <;> first | (exfalso; omega) | (exfalso; exact hc trivial) | skip) | skip)
    | (with_reducible apply hnx; clear hnx nx)
    | (with_reducible refine And.intro (by omega) ?_)
    | (with_reducible refine And.intro ?_ ?_)
    | (with_reducible refine pcall_k (c0) ?_; rintro _ _ ⟨rfl, rfl⟩ -; refine Ev_in ?_)
    | (with_reducible refine pcall_k (c1) ?_; rintro _ _ ⟨rfl, rfl⟩ -; refine Ev_in ?_)
    | (clear hnx nx; with_reducible apply hnx; clear hnx nx)
    | (clear hnx nx; clear hnx nx; with_reducible apply hnx; clear hnx nx)
    | (clear hnx nx; clear hnx nx; clear hnx nx; with_reducible apply hnx; clear hnx nx))
  all_goals first | exact absurd trivial hc | contradiction | exact fun h => False.elim h | (exfalso; omega) | (exfalso; have hc := of_decide_eq_false hc; omega) | (exfalso; simp only [Bool.not_false, Bool.not_true, decide_eq_true_eq, decide_eq_false_iff_not] at *; omega) | skip
  refine W_adopt_f 5 45 5 (by simp only [fr_getD_cons, Nat.reduceEqDiff, Nat.reduceLT, ↓reduceIte]) fun A0 hA => ?_
  refine W_loop_k (fun z τ => ∃ (i : Nat) (A : Int), i ≤ 3 + n0 ∧ z = 3 + n0 - i ∧ τ = ⟨fr 64 [(6, pn i), (5, .row A 5 i), (4, pn s0), (3, pn (3 + n0)), (0, wP l)], [(A, ⟨45, true, 5, flatL (mkA l i)⟩)]⟩) (3 + n0)
    ⟨fr 64 [(6, pn 0), (5, .row A0 5 0), (4, pn s0), (3, pn (3 + n0)), (0, wP l)], [(A0, ⟨45, true, 5, flatL (mkA l 0)⟩)]⟩ (by
    refine Wk_fr (by simp only [wkb, Nat.reduceEqDiff, Nat.reduceLT, ↓reduceIte, pn, Int.natCast_add]) ?_
    all_goals exact Sub_refl (by simp [names])) ⟨0, A0, by omega, by omega, rfl⟩ ?_
  clear hA hnm
  have hnm : True := trivial
  rintro z τ ⟨i, A, hi, rfl, rfl⟩ lp hlp
  have hfl : (flatL (mkA l i)).length = i * 5 := by rw [flatL_len, mkA_len]
  by_cases hil : i < 3 + n0
  · have cp := pool_c G ((s0 + i) % 16) (by omega)
    have hpl := pool_len ((s0 + i) % 16)
    have m16 : ((s0 : Int) + i).tmod 16 = (((s0 + i) % 16 : Nat) : Int) := by
      rw [Int.tmod_eq_emod_of_nonneg (by omega)]
      omega
    have hsn := flatL_snoc (mkA l i) (mkL l i (mkA l i))
    have d1 := at_c G l hl (2 + i) 9 (by omega) (by omega)
    have d2 := at_c G l hl (10 + i) 3 (by omega) (by omega)
    have d3 := fun h : 0 < i => at_c G l hl (20 + i) i (by omega) (by omega)
    have d4 := at_c G l hl (30 + i) 4 (by omega) (by omega)
    have d5 := at_c G l hl (40 + i) 2 (by omega) (by omega)
    have q1 := atF_bound l (2 + i) (most := 9) (by omega)
    have q2 := atF_bound l (10 + i) (most := 3) (by omega)
    have q3 := fun h : 0 < i => atF_bound l (20 + i) (most := i) (by omega)
    have q4 := atF_bound l (30 + i) (most := 4) (by omega)
    have q5 := atF_bound l (40 + i) (most := 2) (by omega)
    simp only [pn, Int.natCast_add, Int.cast_ofNat_Int] at d1 d2 d3 d4 d5
    have hmk : flatL (mkA l (i + 1)) = flatL (mkA l i ++ [mkL l i (mkA l i)]) := rfl
    have hdf := hdef i (mkA l i)
    by_cases h0 : 0 < i
    · have d3 := d3 h0
      have q3 := q3 h0
      have hj : (atF l (20 + i) i).toNat < (mkA l i).length := by rw [mkA_len]; omega
      have hgb : (flatL (mkA l i))[(atF l (20 + i) i).toNat * 5 + 1]? = some (pint .i64 ((mkA l i).getD (atF l (20 + i) i).toNat default).base) := by
        rw [flatL_get hj 1 (by omega), List.getD_eq_getElem?_getD, List.getElem?_eq_getElem hj]
        rfl
      by_cases h1 : atF l (10 + i) 3 = 1
      · rw [if_pos ⟨h0, h1⟩] at hdf
        rw [h1] at d2
        generalize atF l (2 + i) 9 = x1 at *
        generalize atF l (20 + i) i = x3 at *
        generalize atF l (30 + i) 4 = x4 at *
        generalize atF l (40 + i) 2 = x5 at *
        generalize poolL.getD ((s0 + i) % 16) [] = pt at *
        repeat' (first
    | (with_reducible apply W_seq_k; intro nx hnx)
    | (with_reducible first | apply W_block | apply W_scope)
    | (with_reducible refine W_prune 253 ?_; simp only [prb, Nat.reducePow, Nat.reduceDiv, Nat.reduceMod, Nat.reduceBEq]; with_reducible apply W_region_l)
    | ((first | (with_reducible apply WL_op; intro nx hnx) | with_reducible refine Ev_out ?_ | (with_reducible refine pfresh_k hnm fun nm hnm => ?_; (try simp only [fmb] at hnm)) | (with_reducible refine pborn_mu hnm fun nm hnm => ?_; (try simp only [fmb] at hnm)) | (with_reducible refine pmaybe_k ?_; intro bn hbn)); try (simp (maxSteps := 2000000) (disch := omega) only [evb, evd, pbuiltin, constPV, pnck, seqK, blockK, scopeK, pbin, pun, ppick, plen, piaddr, pindex, pfield, pslice, pbound, pconv, pelems, pextract, pmm, PV.mem?, PV.one, PV.cells, pageq, peqs, peq1, pmakes, pstore, pbytes, pmark, pusd, pust, psrc, pkey, pnile, pcap, pgrow, List.set, Value.cells, ↓popG_eq, ↓pop.eq_1, ↓List.getElem?_map, ↓List.getElem?_cons_zero, ↓List.getElem?_cons_succ, Value.oneCell', Nat.reduceAdd, Nat.reduceMul, Nat.reduceSub, Nat.reduceLeDiff, Nat.reduceEqDiff, ↓reduceIte, ne_eq, reduceCtorEq, forall_const, exists_and_left, exists_eq_left', eq_self, Nat.reduceLT, Int.reduceLT, Int.reduceLE, Int.reduceToNat, Int.reduceAdd, Int.reduceSub, Int.reduceNeg, hnm, Tryd.tf0, Tryd.tf1, Tryd.tf2, Tryd.tf3, Tryd.tf4, Tryd.tf9, Tryd.tf22, Tryd.tf23, Tryd.tf45, Tryd.teq45, Tryd.teq94, Tryd.teq104, Tryd.teq113, Tryd.teq114, Tryd.call30, Tryd.call31, hfl, m16, hgb]); repeat (refine And.intro (by omega) ?_))
    | ((with_reducible first | apply WL_nil | apply W_label | apply W_skip | apply W_exit | apply W_ret); try simp only [seqK, blockK, scopeK, ↓reduceIte, Nat.reduceEqDiff])
    | (with_reducible apply pguard_intro <;> (intro hc; (try simp only [hcb, reduceCtorEq, forall_const, ne_eq] at hc); first | (exfalso; omega) | (exfalso; exact hc trivial) | refine Ev_in ?_))
    | (with_reducible apply W_cond_k; intro _ _ ea eb; (simp only [condK, cob, opnd, constPV, Nat.reduceEqDiff, Nat.reduceLT, ↓reduceIte, hcb, reduceCtorEq, forall_const, ne_eq]); subst ea eb; first | (refine ⟨fun hc => ?_, fun hc => ?_⟩ <;> first | (exfalso; omega) | (exfalso; exact hc trivial) | skip) | skip)
    | (with_reducible apply hnx; clear hnx nx)
    | (with_reducible refine And.intro (by omega) ?_)
    | (with_reducible refine And.intro ?_ ?_)
    | (with_reducible refine pcall_k (cp) ?_; rintro _ _ ⟨rfl, rfl⟩ -; refine Ev_in ?_)
    | (with_reducible refine pcall_k (d1) ?_; rintro _ _ ⟨rfl, rfl⟩ -; refine Ev_in ?_)
    | (with_reducible refine pcall_k (d2) ?_; rintro _ _ ⟨rfl, rfl⟩ -; refine Ev_in ?_)
    | (with_reducible refine pcall_k (d3) ?_; rintro _ _ ⟨rfl, rfl⟩ -; refine Ev_in ?_)
    | (with_reducible refine pcall_k (d4) ?_; rintro _ _ ⟨rfl, rfl⟩ -; refine Ev_in ?_)
    | (with_reducible refine pcall_k (d5) ?_; rintro _ _ ⟨rfl, rfl⟩ -; refine Ev_in ?_)
    | (clear hnx nx; with_reducible apply hnx; clear hnx nx)
    | (clear hnx nx; clear hnx nx; with_reducible apply hnx; clear hnx nx)
    | (clear hnx nx; clear hnx nx; clear hnx nx; with_reducible apply hnx; clear hnx nx))
        all_goals first | exact absurd trivial hc | contradiction | exact fun h => False.elim h | (exfalso; omega) | (exfalso; have hc := of_decide_eq_false hc; omega) | (exfalso; simp only [Bool.not_false, Bool.not_true, decide_eq_true_eq, decide_eq_false_iff_not] at *; omega) | skip
        rename_i N2 g2 N1 g1
        refine hlp _ (3 + n0 - (i + 1)) ⟨fr 64 [(6, pn (i + 1)), (5, .row nm 5 (i + 1)), (4, pn s0), (3, pn (3 + n0)), (0, wP l)], [(nm, ⟨45, true, 5, flatL (mkA l (i + 1))⟩)]⟩ (by omega) ?_ ⟨i + 1, nm, by omega, rfl, rfl⟩
        rw [hmk, hsn, hdf]
        refine Wk_fr (by simp only [wkb, Nat.reduceEqDiff, Nat.reduceLT, ↓reduceIte, pn]) ?_
        refine ⟨fun x hx => ?_, by simp [names, hnm]⟩
        simp only [List.mem_cons, List.not_mem_nil, or_false] at hx ⊢
        exact .inl hx
      · rw [if_neg fun h => h1 h.2] at hdf
        generalize atF l (2 + i) 9 = x1 at *
        generalize atF l (10 + i) 3 = x2 at *
        generalize poolL.getD ((s0 + i) % 16) [] = pt at *
        repeat' (first
    | (with_reducible apply W_seq_k; intro nx hnx)
    | (with_reducible first | apply W_block | apply W_scope)
    | (with_reducible refine W_prune 253 ?_; simp only [prb, Nat.reducePow, Nat.reduceDiv, Nat.reduceMod, Nat.reduceBEq]; with_reducible apply W_region_l)
    | ((first | (with_reducible apply WL_op; intro nx hnx) | with_reducible refine Ev_out ?_ | (with_reducible refine pfresh_k hnm fun nm hnm => ?_; (try simp only [fmb] at hnm)) | (with_reducible refine pborn_mu hnm fun nm hnm => ?_; (try simp only [fmb] at hnm)) | (with_reducible refine pmaybe_k ?_; intro bn hbn)); try (simp (maxSteps := 2000000) (disch := omega) only [evb, evd, pbuiltin, constPV, pnck, seqK, blockK, scopeK, pbin, pun, ppick, plen, piaddr, pindex, pfield, pslice, pbound, pconv, pelems, pextract, pmm, PV.mem?, PV.one, PV.cells, pageq, peqs, peq1, pmakes, pstore, pbytes, pmark, pusd, pust, psrc, pkey, pnile, pcap, pgrow, List.set, Value.cells, ↓popG_eq, ↓pop.eq_1, ↓List.getElem?_map, ↓List.getElem?_cons_zero, ↓List.getElem?_cons_succ, Value.oneCell', Nat.reduceAdd, Nat.reduceMul, Nat.reduceSub, Nat.reduceLeDiff, Nat.reduceEqDiff, ↓reduceIte, ne_eq, reduceCtorEq, forall_const, exists_and_left, exists_eq_left', eq_self, Nat.reduceLT, Int.reduceLT, Int.reduceLE, Int.reduceToNat, Int.reduceAdd, Int.reduceSub, Int.reduceNeg, hnm, Tryd.tf0, Tryd.tf1, Tryd.tf2, Tryd.tf3, Tryd.tf4, Tryd.tf9, Tryd.tf22, Tryd.tf23, Tryd.tf45, Tryd.teq45, Tryd.teq94, Tryd.teq104, Tryd.teq113, Tryd.teq114, Tryd.call30, Tryd.call31, hfl, m16]); repeat (refine And.intro (by omega) ?_))
    | ((with_reducible first | apply WL_nil | apply W_label | apply W_skip | apply W_exit | apply W_ret); try simp only [seqK, blockK, scopeK, ↓reduceIte, Nat.reduceEqDiff])
    | (with_reducible apply pguard_intro <;> (intro hc; (try simp only [hcb, reduceCtorEq, forall_const, ne_eq] at hc); first | (exfalso; omega) | (exfalso; exact hc trivial) | refine Ev_in ?_))
    | (with_reducible apply W_cond_k; intro _ _ ea eb; (simp only [condK, cob, opnd, constPV, Nat.reduceEqDiff, Nat.reduceLT, ↓reduceIte, hcb, reduceCtorEq, forall_const, ne_eq]); subst ea eb; first | (refine ⟨fun hc => ?_, fun hc => ?_⟩ <;> first | (exfalso; omega) | (exfalso; exact hc trivial) | skip) | skip)
    | (with_reducible apply hnx; clear hnx nx)
    | (with_reducible refine And.intro (by omega) ?_)
    | (with_reducible refine And.intro ?_ ?_)
    | (with_reducible refine pcall_k (cp) ?_; rintro _ _ ⟨rfl, rfl⟩ -; refine Ev_in ?_)
    | (with_reducible refine pcall_k (d1) ?_; rintro _ _ ⟨rfl, rfl⟩ -; refine Ev_in ?_)
    | (with_reducible refine pcall_k (d2) ?_; rintro _ _ ⟨rfl, rfl⟩ -; refine Ev_in ?_)
    | (clear hnx nx; with_reducible apply hnx; clear hnx nx)
    | (clear hnx nx; clear hnx nx; with_reducible apply hnx; clear hnx nx)
    | (clear hnx nx; clear hnx nx; clear hnx nx; with_reducible apply hnx; clear hnx nx))
        all_goals first | exact absurd trivial hc | contradiction | exact fun h => False.elim h | (exfalso; omega) | (exfalso; have hc := of_decide_eq_false hc; omega) | (exfalso; simp only [Bool.not_false, Bool.not_true, decide_eq_true_eq, decide_eq_false_iff_not] at *; omega) | skip
        rename_i N2 g2 N1 g1
        refine hlp _ (3 + n0 - (i + 1)) ⟨fr 64 [(6, pn (i + 1)), (5, .row nm 5 (i + 1)), (4, pn s0), (3, pn (3 + n0)), (0, wP l)], [(nm, ⟨45, true, 5, flatL (mkA l (i + 1))⟩)]⟩ (by omega) ?_ ⟨i + 1, nm, by omega, rfl, rfl⟩
        rw [hmk, hsn, hdf]
        refine Wk_fr (by simp only [wkb, Nat.reduceEqDiff, Nat.reduceLT, ↓reduceIte, pn]) ?_
        refine ⟨fun x hx => ?_, by simp [names, hnm]⟩
        simp only [List.mem_cons, List.not_mem_nil, or_false] at hx ⊢
        exact .inl hx
    · rw [if_neg fun h => h0 h.1] at hdf
      generalize atF l (2 + i) 9 = x1 at *
      generalize poolL.getD ((s0 + i) % 16) [] = pt at *
      repeat' (first
    | (with_reducible apply W_seq_k; intro nx hnx)
    | (with_reducible first | apply W_block | apply W_scope)
    | (with_reducible refine W_prune 253 ?_; simp only [prb, Nat.reducePow, Nat.reduceDiv, Nat.reduceMod, Nat.reduceBEq]; with_reducible apply W_region_l)
    | ((first | (with_reducible apply WL_op; intro nx hnx) | with_reducible refine Ev_out ?_ | (with_reducible refine pfresh_k hnm fun nm hnm => ?_; (try simp only [fmb] at hnm)) | (with_reducible refine pborn_mu hnm fun nm hnm => ?_; (try simp only [fmb] at hnm)) | (with_reducible refine pmaybe_k ?_; intro bn hbn)); try (simp (maxSteps := 2000000) (disch := omega) only [evb, evd, pbuiltin, constPV, pnck, seqK, blockK, scopeK, pbin, pun, ppick, plen, piaddr, pindex, pfield, pslice, pbound, pconv, pelems, pextract, pmm, PV.mem?, PV.one, PV.cells, pageq, peqs, peq1, pmakes, pstore, pbytes, pmark, pusd, pust, psrc, pkey, pnile, pcap, pgrow, List.set, Value.cells, ↓popG_eq, ↓pop.eq_1, ↓List.getElem?_map, ↓List.getElem?_cons_zero, ↓List.getElem?_cons_succ, Value.oneCell', Nat.reduceAdd, Nat.reduceMul, Nat.reduceSub, Nat.reduceLeDiff, Nat.reduceEqDiff, ↓reduceIte, ne_eq, reduceCtorEq, forall_const, exists_and_left, exists_eq_left', eq_self, Nat.reduceLT, Int.reduceLT, Int.reduceLE, Int.reduceToNat, Int.reduceAdd, Int.reduceSub, Int.reduceNeg, hnm, Tryd.tf0, Tryd.tf1, Tryd.tf2, Tryd.tf3, Tryd.tf4, Tryd.tf9, Tryd.tf22, Tryd.tf23, Tryd.tf45, Tryd.teq45, Tryd.teq94, Tryd.teq104, Tryd.teq113, Tryd.teq114, Tryd.call30, Tryd.call31, hfl, m16]); repeat (refine And.intro (by omega) ?_))
    | ((with_reducible first | apply WL_nil | apply W_label | apply W_skip | apply W_exit | apply W_ret); try simp only [seqK, blockK, scopeK, ↓reduceIte, Nat.reduceEqDiff])
    | (with_reducible apply pguard_intro <;> (intro hc; (try simp only [hcb, reduceCtorEq, forall_const, ne_eq] at hc); first | (exfalso; omega) | (exfalso; exact hc trivial) | refine Ev_in ?_))
    | (with_reducible apply W_cond_k; intro _ _ ea eb; (simp only [condK, cob, opnd, constPV, Nat.reduceEqDiff, Nat.reduceLT, ↓reduceIte, hcb, reduceCtorEq, forall_const, ne_eq]); subst ea eb; first | (refine ⟨fun hc => ?_, fun hc => ?_⟩ <;> first | (exfalso; omega) | (exfalso; exact hc trivial) | skip) | skip)
    | (with_reducible apply hnx; clear hnx nx)
    | (with_reducible refine And.intro (by omega) ?_)
    | (with_reducible refine And.intro ?_ ?_)
    | (with_reducible refine pcall_k (cp) ?_; rintro _ _ ⟨rfl, rfl⟩ -; refine Ev_in ?_)
    | (with_reducible refine pcall_k (d1) ?_; rintro _ _ ⟨rfl, rfl⟩ -; refine Ev_in ?_)
    | (clear hnx nx; with_reducible apply hnx; clear hnx nx)
    | (clear hnx nx; clear hnx nx; with_reducible apply hnx; clear hnx nx)
    | (clear hnx nx; clear hnx nx; clear hnx nx; with_reducible apply hnx; clear hnx nx))
      all_goals first | exact absurd trivial hc | contradiction | exact fun h => False.elim h | (exfalso; omega) | (exfalso; have hc := of_decide_eq_false hc; omega) | (exfalso; simp only [Bool.not_false, Bool.not_true, decide_eq_true_eq, decide_eq_false_iff_not] at *; omega) | skip
      rename_i N2 g2 N1 g1
      refine hlp _ (3 + n0 - (i + 1)) ⟨fr 64 [(6, pn (i + 1)), (5, .row nm 5 (i + 1)), (4, pn s0), (3, pn (3 + n0)), (0, wP l)], [(nm, ⟨45, true, 5, flatL (mkA l (i + 1))⟩)]⟩ (by omega) ?_ ⟨i + 1, nm, by omega, rfl, rfl⟩
      rw [hmk, hsn, hdf]
      refine Wk_fr (by simp only [wkb, Nat.reduceEqDiff, Nat.reduceLT, ↓reduceIte, pn]) ?_
      refine ⟨fun x hx => ?_, by simp [names, hnm]⟩
      simp only [List.mem_cons, List.not_mem_nil, or_false] at hx ⊢
      exact .inl hx
  · have hi2 : i = 3 + n0 := by omega
    subst hi2
    repeat' (first
    | (with_reducible apply W_seq_k; intro nx hnx)
    | (with_reducible first | apply W_block | apply W_scope)
    | (with_reducible refine W_prune 253 ?_; simp only [prb, Nat.reducePow, Nat.reduceDiv, Nat.reduceMod, Nat.reduceBEq]; with_reducible apply W_region_l)
    | ((first | (with_reducible apply WL_op; intro nx hnx) | with_reducible refine Ev_out ?_ | (with_reducible refine pfresh_k hnm fun nm hnm => ?_; (try simp only [fmb] at hnm)) | (with_reducible refine pborn_mu hnm fun nm hnm => ?_; (try simp only [fmb] at hnm)) | (with_reducible refine pmaybe_k ?_; intro bn hbn)); try (simp (maxSteps := 2000000) (disch := omega) only [evb, evd, pbuiltin, constPV, pnck, seqK, blockK, scopeK, pbin, pun, ppick, plen, piaddr, pindex, pfield, pslice, pbound, pconv, pelems, pextract, pmm, PV.mem?, PV.one, PV.cells, pageq, peqs, peq1, pmakes, pstore, pbytes, pmark, pusd, pust, psrc, pkey, pnile, pcap, pgrow, List.set, Value.cells, ↓popG_eq, ↓pop.eq_1, ↓List.getElem?_map, ↓List.getElem?_cons_zero, ↓List.getElem?_cons_succ, Value.oneCell', Nat.reduceAdd, Nat.reduceMul, Nat.reduceSub, Nat.reduceLeDiff, Nat.reduceEqDiff, ↓reduceIte, ne_eq, reduceCtorEq, forall_const, exists_and_left, exists_eq_left', eq_self, Nat.reduceLT, Int.reduceLT, Int.reduceLE, Int.reduceToNat, Int.reduceAdd, Int.reduceSub, Int.reduceNeg, hnm, Tryd.tf0, Tryd.tf1, Tryd.tf2, Tryd.tf3, Tryd.tf4, Tryd.tf9, Tryd.tf22, Tryd.tf23, Tryd.tf45, Tryd.teq45, Tryd.teq94, Tryd.teq104, Tryd.teq113, Tryd.teq114, Tryd.call30, Tryd.call31, hfl]); repeat (refine And.intro (by omega) ?_))
    | ((with_reducible first | apply WL_nil | apply W_label | apply W_skip | apply W_exit | apply W_ret); try simp only [seqK, blockK, scopeK, ↓reduceIte, Nat.reduceEqDiff])
    | (with_reducible apply pguard_intro <;> (intro hc; (try simp only [hcb, reduceCtorEq, forall_const, ne_eq] at hc); first | (exfalso; omega) | (exfalso; exact hc trivial) | refine Ev_in ?_))
    | (with_reducible apply W_cond_k; intro _ _ ea eb; (simp only [condK, cob, opnd, constPV, Nat.reduceEqDiff, Nat.reduceLT, ↓reduceIte, hcb, reduceCtorEq, forall_const, ne_eq]); subst ea eb; first | (refine ⟨fun hc => ?_, fun hc => ?_⟩ <;> first | (exfalso; omega) | (exfalso; exact hc trivial) | skip) | skip)
    | (with_reducible apply hnx; clear hnx nx)
    | (with_reducible refine And.intro (by omega) ?_)
    | (with_reducible refine And.intro ?_ ?_)
    | (clear hnx nx; with_reducible apply hnx; clear hnx nx)
    | (clear hnx nx; clear hnx nx; with_reducible apply hnx; clear hnx nx)
    | (clear hnx nx; clear hnx nx; clear hnx nx; with_reducible apply hnx; clear hnx nx))
    all_goals first | exact absurd trivial hc | contradiction | exact fun h => False.elim h | (exfalso; omega) | (exfalso; have hc := of_decide_eq_false hc; omega) | (exfalso; simp only [Bool.not_false, Bool.not_true, decide_eq_true_eq, decide_eq_false_iff_not] at *; omega) | skip
    refine hfin _ _ (Fin_ret1 rfl (Sub_refl (by simp [names])) ?_)
    simp only [fr_getD_cons, Nat.reduceEqDiff, Nat.reduceLT, ↓reduceIte]
    exact ⟨A, rfl, rfl⟩
theorem letters_c (G : Globs) (l : List Int) (hl : okI l) : PCalls Tryd.prog G 9 [wP l] [] (fun res H => res = ltsP (lettersF l) ∧ H = []) :=
  CRL.frz ((letters_r G l hl).mono fun res H ⟨n, h1, h2⟩ => .inr ⟨n, h1, h2⟩)
end Go.PM

namespace Go.PM
open Go.Proofs
theorem mkA_get (l : List Int) (n j : Nat) (hj : j < n) : (mkA l (n + 1)).getD j default = (mkA l n).getD j default := by
  rw [mkA, List.getD_eq_getElem?_getD, List.getElem?_append_left (by rw [mkA_len]; exact hj), ← List.getD_eq_getElem?_getD]
theorem mkA_last (l : List Int) (n : Nat) : (mkA l (n + 1)).getD n default = mkL l n (mkA l n) := by
  rw [mkA, List.getD_eq_getElem?_getD, List.getElem?_append_right (by rw [mkA_len]; exact Nat.le_refl _), mkA_len, Nat.sub_self]
  rfl
theorem mkA_texts (l : List Int) : ∀ n, texts (mkA l n) = (List.range n).map fun i => poolL.getD (((atF l 1 16).toNat + i) % 16) []
  | 0 => rfl
  | n + 1 => by
    rw [mkA, texts, List.map_append, List.range_succ, List.map_append, ← mkA_texts l n]
    congr 1
    simp only [List.map_cons, List.map_nil, mkL]
    split <;> rfl
/-- What holds of a letter that is made. -/
def goodL (a : List Ltr) (j : Nat) (x : Ltr) : Prop := (0 ≤ x.base ∧ x.base ≤ j) ∧ (a.getD x.base.toNat default).base = x.base ∧ (x.base = j → x.mark = 0 ∧ x.case_ = 0) ∧ (0 ≤ x.mark ∧ x.mark ≤ 15) ∧ (0 ≤ x.case_ ∧ x.case_ ≤ 1) ∧ (1 ≤ x.width ∧ x.width ≤ 1000)
theorem mkA_good (l : List Int) : ∀ n j, j < n → goodL (mkA l n) j ((mkA l n).getD j default)
  | 0, j, h => by omega
  | n + 1, j, h => by
    by_cases hj : j < n
    · obtain ⟨h1, h2, h3, h4, h5, h6⟩ := mkA_good l n j hj
      rw [mkA_get l n j hj]
      refine ⟨h1, ?_, h3, h4, h5, h6⟩
      rw [mkA_get l n _ (by omega)]
      exact h2
    · have hjn : j = n := by omega
      subst hjn
      rw [mkA_last]
      have q1 := atF_bound l (2 + j) (most := 9) (by omega)
      have q4 := atF_bound l (30 + j) (most := 4) (by omega)
      have q5 := atF_bound l (40 + j) (most := 2) (by omega)
      unfold mkL
      split
      · rename_i hc
        have q3 := atF_bound l (20 + j) (most := j) (by omega)
        obtain ⟨h1, h2, h3, h4, h5, h6⟩ := mkA_good l j (atF l (20 + j) j).toNat (by omega)
        refine ⟨⟨?_, ?_⟩, ?_, ?_, ⟨?_, ?_⟩, ⟨?_, ?_⟩, ⟨?_, ?_⟩⟩ <;> simp only <;> try omega
        rw [mkA_get l j _ (by omega)]
        exact h2
      · rename_i hc
        refine ⟨⟨?_, ?_⟩, ?_, ?_, ⟨?_, ?_⟩, ⟨?_, ?_⟩, ⟨?_, ?_⟩⟩ <;> simp only <;> try omega
        · rw [Int.toNat_natCast, mkA_last, mkL, if_neg hc]
        · intro _; exact ⟨trivial, trivial⟩
set_option maxRecDepth 100000 in
theorem pool_nodup : ∀ s, s < 16 → ∀ n, n < 9 → ((List.range n).map fun i => poolL.getD ((s + i) % 16) []).Nodup := by decide +kernel
set_option maxRecDepth 100000 in
theorem pool_plain : ∀ k, k < 16 → plainB (poolL.getD k []) = true := by decide +kernel
theorem letters_valid (l : List Int) : validF (lettersF l) = true := by
  have b0 := atF_bound l 0 (most := 6) (by omega)
  have b1 := atF_bound l 1 (most := 16) (by omega)
  unfold lettersF
  obtain ⟨n, hn⟩ : ∃ n, n = 3 + (atF l 0 6).toNat := ⟨_, rfl⟩
  rw [← hn, validF_iff]
  refine ⟨by rw [mkA_len]; omega, by rw [mkA_len]; omega, ?_, ?_⟩
  · unfold okFrom
    rw [List.drop_zero, List.all_eq_true]
    intro j hj
    have hj : j < n := by
      have := List.mem_range.1 hj
      rwa [mkA_len] at this
    obtain ⟨h1, h2, h3, h4, h5, h6⟩ := mkA_good l n j hj
    have ht : ((mkA l n).getD j default).text = poolL.getD (((atF l 1 16).toNat + j) % 16) [] := by
      have h7 : (texts (mkA l n))[j]? = _ := congrArg (fun q : List (List UInt8) => q[j]?) (mkA_texts l n)
      rw [texts, List.getElem?_map, List.getElem?_map, List.getElem?_range hj] at h7
      have hl : j < (mkA l n).length := by rw [mkA_len]; exact hj
      rw [List.getD_eq_getElem?_getD]
      rw [List.getElem?_eq_getElem hl] at h7 ⊢
      exact Option.some.inj h7
    rw [okLtr_iff]
    refine ⟨?_, h1.1, by rw [mkA_len]; omega, fun hb => ?_, h4.1, h4.2, h5.1, h5.2, h6.1, h6.2, h3⟩
    · rw [ht]
      exact pool_plain _ (by omega)
    · have := h2
      rw [List.getD_eq_getElem?_getD, List.getElem?_eq_getElem hb] at this
      exact this
  · rw [mkA_texts]
    exact pool_nodup _ (by omega) _ (by omega)
theorem lettersF_len (l : List Int) : 3 ≤ (lettersF l).length ∧ (lettersF l).length ≤ 8 := by
  have b0 := atF_bound l 0 (most := 6) (by omega)
  unfold lettersF
  rw [mkA_len]
  omega
theorem valid_HA {a : List Ltr} (h : validF a = true) : HA a := by
  obtain ⟨h1, h2, h3, h4⟩ := validF_iff.1 h
  refine ⟨by omega, fun x hx => ?_⟩
  obtain ⟨j, hj, rfl⟩ := List.mem_iff_getElem.1 hx
  have := (valid_text h hj).2
  obtain ⟨k1, k2, k3, k4, k5, k6, k7, k8, k9, k10, k11⟩ := okLtr_iff.1 (okFrom_get h3 hj)
  exact ⟨by omega, ⟨by omega, by omega⟩, by omega, by omega⟩
end Go.PM

namespace Go.PM
open Go.Proofs
attribute [local irreducible] W PCalls pcall pcallI WL
set_option maxRecDepth 100000
set_option maxHeartbeats 8000000
theorem same_c (G : Globs) (x : Ltr) (b : List UInt8) (c : Int) : PCalls Tryd.prog G 41 [ltP x, .ptr c 0] [(c, ⟨9, false, 0, [pstr b]⟩)] (fun res H => res = pbool (decide (x.text = b)) ∧ H = [(c, ⟨9, false, 0, [pstr b]⟩)]) := by
  (refine PCalls_f Tryd.func41 rfl Tryd.ntmps41 Tryd.results41 (by simp) fun fin hfin => ?_; have hnm : True := trivial; simp (maxSteps := 2000000) (disch := omega) only [evb, evd, pbuiltin, constPV, pnck, seqK, blockK, scopeK, pbin, pun, ppick, plen, piaddr, pindex, pfield, pslice, pbound, pconv, pelems, pextract, pmm, PV.mem?, PV.one, PV.cells, pageq, peqs, peq1, pmakes, pstore, pbytes, pmark, pusd, pust, psrc, pkey, pnile, pcap, pgrow, List.set, Value.cells, ↓popG_eq, ↓pop.eq_1, ↓List.getElem?_map, ↓List.getElem?_cons_zero, ↓List.getElem?_cons_succ, Value.oneCell', Nat.reduceAdd, Nat.reduceMul, Nat.reduceSub, Nat.reduceLeDiff, Nat.reduceEqDiff, ↓reduceIte, ne_eq, reduceCtorEq, forall_const, exists_and_left, exists_eq_left', eq_self, Nat.reduceLT, Int.reduceLT, Int.reduceLE, Int.reduceToNat, Int.reduceAdd, Int.reduceSub, Int.reduceNeg, hnm, Tryd.tf0, Tryd.tf4, Tryd.tf9, Tryd.tf45, Tryd.teq45, Tryd.teq94, Tryd.teq104, Tryd.teq113, Tryd.teq114])
  repeat' (first
    | (with_reducible apply W_seq_k; intro nx hnx)
    | (with_reducible first | apply W_block | apply W_scope)
    | (with_reducible refine W_prune 15 ?_; simp only [prb, Nat.reducePow, Nat.reduceDiv, Nat.reduceMod, Nat.reduceBEq]; with_reducible apply W_region_l)
    | ((first | (with_reducible apply WL_op; intro nx hnx) | with_reducible refine Ev_out ?_ | (with_reducible refine pfresh_k hnm fun nm hnm => ?_; (try simp only [fmb] at hnm)) | (with_reducible refine pborn_mu hnm fun nm hnm => ?_; (try simp only [fmb] at hnm))); try (simp (maxSteps := 2000000) (disch := omega) only [evb, evd, pbuiltin, constPV, pnck, seqK, blockK, scopeK, pbin, pun, ppick, plen, piaddr, pindex, pfield, pslice, pbound, pconv, pelems, pextract, pmm, PV.mem?, PV.one, PV.cells, pageq, peqs, peq1, pmakes, pstore, pbytes, pmark, pusd, pust, psrc, pkey, pnile, pcap, pgrow, List.set, Value.cells, ↓popG_eq, ↓pop.eq_1, ↓List.getElem?_map, ↓List.getElem?_cons_zero, ↓List.getElem?_cons_succ, Value.oneCell', Nat.reduceAdd, Nat.reduceMul, Nat.reduceSub, Nat.reduceLeDiff, Nat.reduceEqDiff, ↓reduceIte, ne_eq, reduceCtorEq, forall_const, exists_and_left, exists_eq_left', eq_self, Nat.reduceLT, Int.reduceLT, Int.reduceLE, Int.reduceToNat, Int.reduceAdd, Int.reduceSub, Int.reduceNeg, hnm, Tryd.tf0, Tryd.tf4, Tryd.tf9, Tryd.tf45, Tryd.teq45, Tryd.teq94, Tryd.teq104, Tryd.teq113, Tryd.teq114]); repeat (refine And.intro (by omega) ?_))
    | ((with_reducible first | apply WL_nil | apply W_label | apply W_skip | apply W_exit | apply W_ret); try simp only [seqK, blockK, scopeK, ↓reduceIte, Nat.reduceEqDiff])
    | (with_reducible apply W_cond_k; intro _ _ ea eb; (simp only [condK, cob, opnd, constPV, Nat.reduceEqDiff, Nat.reduceLT, ↓reduceIte, hcb, reduceCtorEq, forall_const, ne_eq]); subst ea eb; first | (refine ⟨fun hc => ?_, fun hc => ?_⟩ <;> first | (exfalso; omega) | (exfalso; exact hc trivial) | skip) | skip)
    | (with_reducible apply hnx; clear hnx nx)
    | (with_reducible refine And.intro (by omega) ?_)
    | (with_reducible refine And.intro ?_ ?_)
    | (clear hnx nx; with_reducible apply hnx; clear hnx nx)
    | (clear hnx nx; clear hnx nx; with_reducible apply hnx; clear hnx nx)
    | (clear hnx nx; clear hnx nx; clear hnx nx; with_reducible apply hnx; clear hnx nx))
  refine hfin _ _ (Fin_ret1 rfl (H := [(c, ⟨9, false, 0, [pstr b]⟩)]) ⟨fun x hx => List.mem_cons_of_mem _ hx, by simp [names]⟩ ?_)
  simp only [fr_getD_cons, Nat.reduceEqDiff, Nat.reduceLT, ↓reduceIte]
  refine ⟨?_, by trivial⟩
  by_cases h : x.text = b <;> simp [h]
theorem findT_none {a : List Ltr} {b : List UInt8} (h : ∀ x ∈ a, ¬ x.text = b) : findT a b = none := by
  unfold findT
  rw [List.findIdx?_eq_none_iff]
  intro x hx
  simp [h x hx]
theorem findT_some {a : List Ltr} {b : List UInt8} {k : Nat} (hk : k < a.length) (h1 : a[k].text = b) (h2 : ∀ x ∈ a.take k, ¬ x.text = b) : findT a b = some k := by
  unfold findT
  rw [List.findIdx?_eq_some_iff_getElem]
  refine ⟨hk, by simp [h1], fun j hj => ?_⟩
  have := h2 a[j] (by rw [List.mem_take_iff_getElem]; exact ⟨j, by omega, rfl⟩)
  simp [this]
/-- What IndexFunc hands back. -/
def idxT (a : List Ltr) (b : List UInt8) : Int := match findT a b with | some k => k | none => -1
theorem indexFunc_c (G : Globs) (a : List Ltr) (b : List UInt8) (n c : Int) (ha : a.length ≤ 1000000) : PCalls Tryd.prog G 40 [.row n 5 a.length, .func 41 [.ptr c 0]] [(c, ⟨9, false, 0, [pstr b]⟩), (n, ⟨45, true, 5, flatL a⟩)] (fun res H => res = pint .i64 (idxT a b) ∧ H = [(c, ⟨9, false, 0, [pstr b]⟩), (n, ⟨45, true, 5, flatL a⟩)]) := by
  refine PCalls.nd fun nd => ?_
  have hne : (c = n) = False ∧ (n = c) = False := by
    simp only [names, List.map_cons, List.map_nil, List.nodup_cons, List.mem_cons, List.not_mem_nil, or_false] at nd
    exact ⟨eq_false nd.1, eq_false fun e => nd.1 e.symm⟩
  (refine PCalls_f Tryd.func40 rfl Tryd.ntmps40 Tryd.results40 (by simp) fun fin hfin => ?_; have hnm : True := trivial; simp (maxSteps := 2000000) (disch := omega) only [evb, evd, pbuiltin, constPV, pnck, seqK, blockK, scopeK, pbin, pun, ppick, plen, piaddr, pindex, pfield, pslice, pbound, pconv, pelems, pextract, pmm, PV.mem?, PV.one, PV.cells, pageq, peqs, peq1, pmakes, pstore, pbytes, pmark, pusd, pust, psrc, pkey, pnile, pcap, pgrow, List.set, Value.cells, ↓popG_eq, ↓pop.eq_1, ↓List.getElem?_map, ↓List.getElem?_cons_zero, ↓List.getElem?_cons_succ, Value.oneCell', Nat.reduceAdd, Nat.reduceMul, Nat.reduceSub, Nat.reduceLeDiff, Nat.reduceEqDiff, ↓reduceIte, ne_eq, reduceCtorEq, forall_const, exists_and_left, exists_eq_left', eq_self, Nat.reduceLT, Int.reduceLT, Int.reduceLE, Int.reduceToNat, Int.reduceAdd, Int.reduceSub, Int.reduceNeg, hnm, Tryd.tf0, Tryd.tf3, Tryd.tf4, Tryd.tf23, Tryd.tf45, Tryd.teq45, Tryd.tf64, Tryd.teq94, Tryd.teq104, Tryd.teq113, Tryd.teq114])
  repeat' (first
    | (with_reducible apply W_seq_k; intro nx hnx)
    | (with_reducible first | apply W_block | apply W_scope)
    | (with_reducible refine W_prune 435 ?_; simp only [prb, Nat.reducePow, Nat.reduceDiv, Nat.reduceMod, Nat.reduceBEq]; with_reducible apply W_region_l)
    | ((first | (with_reducible apply WL_op; intro nx hnx) | with_reducible refine Ev_out ?_); try (simp (maxSteps := 2000000) (disch := omega) only [evb, evd, pbuiltin, constPV, pnck, seqK, blockK, scopeK, pbin, pun, ppick, plen, piaddr, pindex, pfield, pslice, pbound, pconv, pelems, pextract, pmm, PV.mem?, PV.one, PV.cells, pageq, peqs, peq1, pmakes, pstore, pbytes, pmark, pusd, pust, psrc, pkey, pnile, pcap, pgrow, List.set, Value.cells, ↓popG_eq, ↓pop.eq_1, ↓List.getElem?_map, ↓List.getElem?_cons_zero, ↓List.getElem?_cons_succ, Value.oneCell', Nat.reduceAdd, Nat.reduceMul, Nat.reduceSub, Nat.reduceLeDiff, Nat.reduceEqDiff, ↓reduceIte, ne_eq, reduceCtorEq, forall_const, exists_and_left, exists_eq_left', eq_self, Nat.reduceLT, Int.reduceLT, Int.reduceLE, Int.reduceToNat, Int.reduceAdd, Int.reduceSub, Int.reduceNeg, hnm, Tryd.tf0, Tryd.tf3, Tryd.tf4, Tryd.tf23, Tryd.tf45, Tryd.teq45, Tryd.tf64, Tryd.teq94, Tryd.teq104, Tryd.teq113, Tryd.teq114, hne]); repeat (refine And.intro (by omega) ?_))
    | ((with_reducible first | apply WL_nil | apply W_label | apply W_skip | apply W_exit | apply W_ret); try simp only [seqK, blockK, scopeK, ↓reduceIte, Nat.reduceEqDiff])
    | (with_reducible apply W_cond_k; intro _ _ ea eb; (simp only [condK, cob, opnd, constPV, Nat.reduceEqDiff, Nat.reduceLT, ↓reduceIte, hcb, reduceCtorEq, forall_const, ne_eq]); subst ea eb; first | (refine ⟨fun hc => ?_, fun hc => ?_⟩ <;> first | (exfalso; omega) | (exfalso; exact hc trivial) | skip) | skip)
    | (with_reducible apply hnx; clear hnx nx)
    | (with_reducible refine And.intro (by omega) ?_)
    | (with_reducible refine And.intro ?_ ?_)
    | (clear hnx nx; with_reducible apply hnx; clear hnx nx)
    | (clear hnx nx; clear hnx nx; with_reducible apply hnx; clear hnx nx)
    | (clear hnx nx; clear hnx nx; clear hnx nx; with_reducible apply hnx; clear hnx nx))
  refine W_loop_k (fun z τ => ∃ (i : Nat), i ≤ a.length ∧ z = a.length - i ∧ (∀ x ∈ a.take i, ¬ x.text = b) ∧ τ = ⟨fr 19 [(8, pn i), (7, pint .i64 a.length), (0, .row n 5 a.length), (1, .func 41 [.ptr c 0])], [(c, ⟨9, false, 0, [pstr b]⟩), (n, ⟨45, true, 5, flatL a⟩)]⟩) a.length
    ⟨fr 19 [(8, pn 0), (7, pint .i64 a.length), (0, .row n 5 a.length), (1, .func 41 [.ptr c 0])], [(c, ⟨9, false, 0, [pstr b]⟩), (n, ⟨45, true, 5, flatL a⟩)]⟩ (by
    refine Wk_fr (by simp only [wkb, Nat.reduceEqDiff, Nat.reduceLT, ↓reduceIte, pn]) ?_
    exact Sub_refl (by simp [names, hne])) ⟨0, by omega, by omega, by simp, rfl⟩ ?_
  rintro z τ ⟨i, hi, rfl, hno, rfl⟩ lp hlp
  by_cases hil : i < a.length
  · have hat := flatL_at hil
    have hat : List.take 5 (List.drop (i * 5) (flatL a)) = [pstr a[i].text, pint .i64 a[i].base, pint .i64 a[i].mark, pint .i64 a[i].case_, pint .i64 a[i].width] := hat
    have c1 := same_c G a[i] b c
    have hfl := flatL_len a
    repeat' (first
    | (with_reducible apply W_seq_k; intro nx hnx)
    | (with_reducible first | apply W_block | apply W_scope)
    | (with_reducible refine W_prune 435 ?_; simp only [prb, Nat.reducePow, Nat.reduceDiv, Nat.reduceMod, Nat.reduceBEq]; with_reducible apply W_region_l)
    | ((first | (with_reducible apply WL_op; intro nx hnx) | with_reducible refine Ev_out ?_); try (simp (maxSteps := 2000000) (disch := omega) only [evb, evd, pbuiltin, constPV, pnck, seqK, blockK, scopeK, pbin, pun, ppick, plen, piaddr, pindex, pfield, pslice, pbound, pconv, pelems, pextract, pmm, PV.mem?, PV.one, PV.cells, pageq, peqs, peq1, pmakes, pstore, pbytes, pmark, pusd, pust, psrc, pkey, pnile, pcap, pgrow, List.set, Value.cells, ↓popG_eq, ↓pop.eq_1, ↓List.getElem?_map, ↓List.getElem?_cons_zero, ↓List.getElem?_cons_succ, Value.oneCell', Nat.reduceAdd, Nat.reduceMul, Nat.reduceSub, Nat.reduceLeDiff, Nat.reduceEqDiff, ↓reduceIte, ne_eq, reduceCtorEq, forall_const, exists_and_left, exists_eq_left', eq_self, Nat.reduceLT, Int.reduceLT, Int.reduceLE, Int.reduceToNat, Int.reduceAdd, Int.reduceSub, Int.reduceNeg, hnm, Tryd.tf0, Tryd.tf3, Tryd.tf4, Tryd.tf23, Tryd.tf45, Tryd.teq45, Tryd.tf64, Tryd.teq94, Tryd.teq104, Tryd.teq113, Tryd.teq114, hne, hat, hfl]); repeat (refine And.intro (by omega) ?_))
    | ((with_reducible first | apply WL_nil | apply W_label | apply W_skip | apply W_exit | apply W_ret); try simp only [seqK, blockK, scopeK, ↓reduceIte, Nat.reduceEqDiff])
    | (with_reducible apply W_cond_k; intro _ _ ea eb; (simp only [condK, cob, opnd, constPV, Nat.reduceEqDiff, Nat.reduceLT, ↓reduceIte, hcb, reduceCtorEq, forall_const, ne_eq]); subst ea eb; first | (refine ⟨fun hc => ?_, fun hc => ?_⟩ <;> first | (exfalso; omega) | (exfalso; exact hc trivial) | skip) | skip)
    | (with_reducible apply hnx; clear hnx nx)
    | (with_reducible refine And.intro (by omega) ?_)
    | (with_reducible refine And.intro ?_ ?_)
    | ((refine pcall_midn [] [_] [_] rfl c1 ?_; rintro _ _ ⟨rfl, rfl⟩ -; refine Ev_in ?_))
    | (clear hnx nx; with_reducible apply hnx; clear hnx nx)
    | (clear hnx nx; clear hnx nx; with_reducible apply hnx; clear hnx nx)
    | (clear hnx nx; clear hnx nx; clear hnx nx; with_reducible apply hnx; clear hnx nx))
    all_goals first
      | exact absurd trivial hc
      | exact fun h => False.elim h
      | (exfalso
         omega)
      | skip
    · exact (by kernel_rfl : callable Tryd.prog 41 = true)
    · have hk := findT_some hil hc hno
      refine hfin _ _ (Fin_ret1 rfl (Sub_refl (by simp [names, hne])) ?_)
      simp only [fr_getD_cons, Nat.reduceEqDiff, Nat.reduceLT, ↓reduceIte]
      exact ⟨by rw [idxT, hk], by trivial⟩
    · refine hlp _ (a.length - (i + 1)) _ (by omega) ?_ ⟨i + 1, by omega, rfl, ?_, rfl⟩
      · refine Wk_fr (by simp only [wkb, Nat.reduceEqDiff, Nat.reduceLT, ↓reduceIte, pn]) ?_
        exact Sub_refl (by simp [names, hne])
      · intro x hx
        rw [List.take_add_one, List.getElem?_eq_getElem hil, List.mem_append] at hx
        rcases hx with hx | hx
        · exact hno x hx
        · simp only [Option.toList_some, List.mem_singleton] at hx
          rw [hx]
          exact hc
  · have hi2 : i = a.length := by omega
    subst hi2
    repeat' (first
    | (with_reducible apply W_seq_k; intro nx hnx)
    | (with_reducible first | apply W_block | apply W_scope)
    | (with_reducible refine W_prune 435 ?_; simp only [prb, Nat.reducePow, Nat.reduceDiv, Nat.reduceMod, Nat.reduceBEq]; with_reducible apply W_region_l)
    | ((first | (with_reducible apply WL_op; intro nx hnx) | with_reducible refine Ev_out ?_); try (simp (maxSteps := 2000000) (disch := omega) only [evb, evd, pbuiltin, constPV, pnck, seqK, blockK, scopeK, pbin, pun, ppick, plen, piaddr, pindex, pfield, pslice, pbound, pconv, pelems, pextract, pmm, PV.mem?, PV.one, PV.cells, pageq, peqs, peq1, pmakes, pstore, pbytes, pmark, pusd, pust, psrc, pkey, pnile, pcap, pgrow, List.set, Value.cells, ↓popG_eq, ↓pop.eq_1, ↓List.getElem?_map, ↓List.getElem?_cons_zero, ↓List.getElem?_cons_succ, Value.oneCell', Nat.reduceAdd, Nat.reduceMul, Nat.reduceSub, Nat.reduceLeDiff, Nat.reduceEqDiff, ↓reduceIte, ne_eq, reduceCtorEq, forall_const, exists_and_left, exists_eq_left', eq_self, Nat.reduceLT, Int.reduceLT, Int.reduceLE, Int.reduceToNat, Int.reduceAdd, Int.reduceSub, Int.reduceNeg, hnm, Tryd.tf0, Tryd.tf3, Tryd.tf4, Tryd.tf23, Tryd.tf45, Tryd.teq45, Tryd.tf64, Tryd.teq94, Tryd.teq104, Tryd.teq113, Tryd.teq114, hne]); repeat (refine And.intro (by omega) ?_))
    | ((with_reducible first | apply WL_nil | apply W_label | apply W_skip | apply W_exit | apply W_ret); try simp only [seqK, blockK, scopeK, ↓reduceIte, Nat.reduceEqDiff])
    | (with_reducible apply W_cond_k; intro _ _ ea eb; (simp only [condK, cob, opnd, constPV, Nat.reduceEqDiff, Nat.reduceLT, ↓reduceIte, hcb, reduceCtorEq, forall_const, ne_eq]); subst ea eb; first | (refine ⟨fun hc => ?_, fun hc => ?_⟩ <;> first | (exfalso; omega) | (exfalso; exact hc trivial) | skip) | skip)
    | (with_reducible apply hnx; clear hnx nx)
    | (with_reducible refine And.intro (by omega) ?_)
    | (with_reducible refine And.intro ?_ ?_)
    | (clear hnx nx; with_reducible apply hnx; clear hnx nx)
    | (clear hnx nx; clear hnx nx; with_reducible apply hnx; clear hnx nx)
    | (clear hnx nx; clear hnx nx; clear hnx nx; with_reducible apply hnx; clear hnx nx))
    all_goals first
      | exact absurd trivial hc
      | exact fun h => False.elim h
      | (exfalso
         omega)
      | skip
    have hk := findT_none (by rw [List.take_length] at hno; exact hno)
    refine hfin _ _ (Fin_ret1 rfl (Sub_refl (by simp [names, hne])) ?_)
    simp only [fr_getD_cons, Nat.reduceEqDiff, Nat.reduceLT, ↓reduceIte]
    exact ⟨by rw [idxT, hk], by trivial⟩
end Go.PM

namespace Go.PM
open Go.Proofs
attribute [local irreducible] W PCalls pcall pcallI WL
set_option maxRecDepth 100000
set_option maxHeartbeats 8000000
theorem index63_c (G : Globs) (s : List UInt8) (c : UInt8) : PCalls Tryd.prog G 63 [pstr s, .val (.string ⟨#[c]⟩)] [] (fun res H => res = pint .i64 (Lib.indexByte s c) ∧ H = []) :=
  PCalls_pure (P := Tryd.prog) (G := G) (f := 63) [.string (mk s), .string ⟨#[c]⟩] (.int .i64 (Lib.indexByte s c)) (fun w => by
    have := Tryd.strings_Index_one (mk s) c w
    simpa [mk] using this)
theorem count_c (G : Globs) (s : List UInt8) (c : UInt8) : PCalls Tryd.prog G 62 [pstr s, .val (.string ⟨#[c]⟩)] [] (fun res H => res = pn (s.count c) ∧ H = []) :=
  PCalls_pure (P := Tryd.prog) (G := G) (f := 62) [.string (mk s), .string ⟨#[c]⟩] (.int .i64 (s.count c : Nat)) (fun w => by
    have := Tryd.strings_Count_one (mk s) c w
    simpa [mk, Lib.countByte] using this)
/-- A row of texts, or none. -/
@[reducible] def CRS (l : List (List UInt8)) (res : PV) (H : Heap) : Prop := (l = [] ∧ res = pnil ∧ H = []) ∨ (∃ n : Int, res = .row n 1 l.length ∧ H = [(n, ⟨9, true, 1, l.map pstr⟩)])
theorem set_mid {A R : List PV} {z x : PV} {k : Nat} (h : A.length = k) : List.take k (A ++ z :: R) ++ [x] ++ List.drop (k + 1) (A ++ z :: R) = A ++ x :: R := by
  subst h
  rw [List.take_left' rfl, ← List.drop_drop, List.drop_left' rfl]
  simp
theorem genSplit_r (G : Globs) (s : List UInt8) (c : UInt8) (hs : s.length ≤ 100000000) : PCalls Tryd.prog G 54 [pstr s, .val (.string ⟨#[c]⟩), .val (.int .i64 0), .val (.int .i64 (-1))] [] (CRS (splitF c s)) := by
  have c1 := count_c G s c
  have hcl : s.count c ≤ s.length := List.count_le_length
  (refine PCalls_f Tryd.func54 rfl Tryd.ntmps54 Tryd.results54 (by simp) fun fin hfin => ?_; have hnm : True := trivial; simp (maxSteps := 2000000) (disch := omega) only [evb, evd, pbuiltin, constPV, pnck, seqK, blockK, scopeK, pbin, pun, ppick, plen, piaddr, pindex, pfield, pslice, pbound, pconv, pelems, pextract, pmm, PV.mem?, PV.one, PV.cells, pageq, peqs, peq1, pmakes, pstore, pbytes, pmark, pusd, pust, psrc, pkey, pnile, pcap, pgrow, List.set, Value.cells, ↓popG_eq, ↓pop.eq_1, ↓List.getElem?_map, ↓List.getElem?_cons_zero, ↓List.getElem?_cons_succ, Value.oneCell', Nat.reduceAdd, Nat.reduceMul, Nat.reduceSub, Nat.reduceLeDiff, Nat.reduceEqDiff, ↓reduceIte, ne_eq, reduceCtorEq, forall_const, exists_and_left, exists_eq_left', eq_self, Nat.reduceLT, Int.reduceLT, Int.reduceLE, Int.reduceToNat, Int.reduceAdd, Int.reduceSub, Int.reduceNeg, hnm, Tryd.tf0, Tryd.tf3, Tryd.tf4, Tryd.tf9, Tryd.tf26, Tryd.teq45, Tryd.teq94, Tryd.teq104, Tryd.teq113, Tryd.teq114, Tryd.call61, Tryd.call62, Tryd.call63])
  repeat' (first
    | (with_reducible apply W_seq_k; intro nx hnx)
    | (with_reducible first | apply W_block | apply W_scope)
    | (with_reducible refine W_prune 3855 ?_; simp only [prb, Nat.reducePow, Nat.reduceDiv, Nat.reduceMod, Nat.reduceBEq]; with_reducible apply W_region_l)
    | ((first | (with_reducible apply WL_op; intro nx hnx) | with_reducible refine Ev_out ?_ | (with_reducible refine pfresh_k hnm fun nm hnm => ?_; (try simp only [fmb] at hnm)) | (with_reducible refine pborn_mu hnm fun nm hnm => ?_; (try simp only [fmb] at hnm)) | (with_reducible refine pmaybe_k ?_; intro bn hbn)); try (simp (maxSteps := 2000000) (disch := omega) only [evb, evd, pbuiltin, constPV, pnck, seqK, blockK, scopeK, pbin, pun, ppick, plen, piaddr, pindex, pfield, pslice, pbound, pconv, pelems, pextract, pmm, PV.mem?, PV.one, PV.cells, pageq, peqs, peq1, pmakes, pstore, pbytes, pmark, pusd, pust, psrc, pkey, pnile, pcap, pgrow, List.set, Value.cells, ↓popG_eq, ↓pop.eq_1, ↓List.getElem?_map, ↓List.getElem?_cons_zero, ↓List.getElem?_cons_succ, Value.oneCell', Nat.reduceAdd, Nat.reduceMul, Nat.reduceSub, Nat.reduceLeDiff, Nat.reduceEqDiff, ↓reduceIte, ne_eq, reduceCtorEq, forall_const, exists_and_left, exists_eq_left', eq_self, Nat.reduceLT, Int.reduceLT, Int.reduceLE, Int.reduceToNat, Int.reduceAdd, Int.reduceSub, Int.reduceNeg, hnm, Tryd.tf0, Tryd.tf3, Tryd.tf4, Tryd.tf9, Tryd.tf26, Tryd.teq45, Tryd.teq94, Tryd.teq104, Tryd.teq113, Tryd.teq114, Tryd.call61, Tryd.call62, Tryd.call63]); repeat (refine And.intro (by omega) ?_))
    | ((with_reducible first | apply WL_nil | apply W_label | apply W_skip | apply W_exit | apply W_ret); try simp only [seqK, blockK, scopeK, ↓reduceIte, Nat.reduceEqDiff])
    | (with_reducible apply W_cond_k; intro _ _ ea eb; (simp only [condK, cob, opnd, constPV, Nat.reduceEqDiff, Nat.reduceLT, ↓reduceIte, hcb, reduceCtorEq, forall_const, ne_eq]); subst ea eb; first | (refine ⟨fun hc => ?_, fun hc => ?_⟩ <;> first | (exfalso; omega) | (exfalso; exact hc trivial) | skip) | skip)
    | (with_reducible apply hnx; clear hnx nx)
    | (with_reducible refine And.intro (by omega) ?_)
    | (with_reducible refine And.intro ?_ ?_)
    | (with_reducible refine pcall_k (c1) ?_; rintro _ _ ⟨rfl, rfl⟩ -; refine Ev_in ?_)
    | (clear hnx nx; with_reducible apply hnx; clear hnx nx)
    | (clear hnx nx; clear hnx nx; with_reducible apply hnx; clear hnx nx)
    | (clear hnx nx; clear hnx nx; clear hnx nx; with_reducible apply hnx; clear hnx nx))
  all_goals first
    | exact absurd trivial hc
    | (exfalso
       omega)
    | skip
  have hm : min ((s.count c : Int) + 1) ((s.length : Int) + 1) = ((s.count c + 1 : Nat) : Int) := by omega
  have hz : ((s.count c + 1 : Nat) : Int) - 1 = ((s.count c : Nat) : Int) := by omega
  rw [hm, hz, Int.toNat_natCast]
  obtain ⟨n, hn⟩ : ∃ n, n = s.count c := ⟨_, rfl⟩
  rw [← hn]
  generalize nm = M at *
  refine W_loop_k (fun z τ => ∃ (i : Nat) (r : List UInt8) (out : List (List UInt8)), i ≤ n ∧ z = n - i ∧ out.length = i ∧ r.count c = n - i ∧ r.length ≤ s.length ∧ splitF c s = out ++ splitF c r ∧ τ = ⟨fr 66 [(10, pn i), (3, pn n), (9, .row M 1 (n + 1)), (0, pstr r), (1, .val (.string ⟨#[c]⟩)), (2, .val (.int .i64 0))], [(M, ⟨9, true, 1, out.map pstr ++ List.replicate (n + 1 - i) (.val (.string ⟨#[]⟩))⟩)]⟩) n
    ⟨fr 66 [(10, pn 0), (3, pn n), (9, .row M 1 (n + 1)), (0, pstr s), (1, .val (.string ⟨#[c]⟩)), (2, .val (.int .i64 0))], [(M, ⟨9, true, 1, List.replicate (n + 1) (.val (.string ⟨#[]⟩))⟩)]⟩ (by
    refine Wk_fr (by simp only [wkb, Nat.reduceEqDiff, Nat.reduceLT, ↓reduceIte, pn]) ?_
    rw [List.flatten_replicate_singleton]
    exact Sub_refl (by simp [names])) ⟨0, s, [], by omega, by omega, rfl, by omega, by omega, by simp, rfl⟩ ?_
  rintro z τ ⟨i, r, out, hi, rfl, hol, hrc, hrl, hsp, rfl⟩ lp hlp
  subst hol
  have hrep : List.replicate (n + 1 - out.length) (PV.val (.string ⟨#[]⟩)) = .val (.string ⟨#[]⟩) :: List.replicate (n + 1 - (out.length + 1)) (PV.val (.string ⟨#[]⟩)) := by
    rw [show n + 1 - out.length = (n + 1 - (out.length + 1)) + 1 by omega, List.replicate_succ]
  have hlen : (out.map pstr ++ List.replicate (n + 1 - out.length) (PV.val (.string ⟨#[]⟩))).length = n + 1 := by
    rw [List.length_append, List.length_map, List.length_replicate]
    omega
  by_cases hil : out.length < n
  · rcases idx_cases c r with ⟨h1, h2⟩ | ⟨t, r', h1, h2, h3⟩
    · have := List.count_eq_zero.2 h2
      omega
    · have c2 := index63_c G r c
      rw [h3] at c2
      have hr1 : List.take t.length r = t := by rw [h1, List.take_left' rfl]
      have hr2 : List.drop (t.length + 1) (List.take r.length r) = r' := by
        rw [List.take_length, h1, ← List.drop_drop, List.drop_left' rfl]
        rfl
      have hlr : r.length = t.length + 1 + r'.length := by rw [h1]; simp; omega
      have hcr : r'.count c = n - (out.length + 1) := by
        rw [h1, List.count_append, List.count_eq_zero.2 h2, List.count_cons_self] at hrc
        omega
      rw [h1, splitF_cut h2] at hsp
      clear h1
      have hn1 : ((t.length : Int) + 1).toNat = t.length + 1 := by omega
      have hn2 : ((t.length : Int) + 0).toNat = t.length := by omega
      repeat' (first
    | (with_reducible apply W_seq_k; intro nx hnx)
    | (with_reducible first | apply W_block | apply W_scope)
    | (with_reducible refine W_prune 3855 ?_; simp only [prb, Nat.reducePow, Nat.reduceDiv, Nat.reduceMod, Nat.reduceBEq]; with_reducible apply W_region_l)
    | ((first | (with_reducible apply WL_op; intro nx hnx) | with_reducible refine Ev_out ?_ | (with_reducible refine pfresh_k hnm fun nm hnm => ?_; (try simp only [fmb] at hnm)) | (with_reducible refine pborn_mu hnm fun nm hnm => ?_; (try simp only [fmb] at hnm)) | (with_reducible refine pmaybe_k ?_; intro bn hbn)); try (simp (maxSteps := 2000000) (disch := omega) only [evb, evd, pbuiltin, constPV, pnck, seqK, blockK, scopeK, pbin, pun, ppick, plen, piaddr, pindex, pfield, pslice, pbound, pconv, pelems, pextract, pmm, PV.mem?, PV.one, PV.cells, pageq, peqs, peq1, pmakes, pstore, pbytes, pmark, pusd, pust, psrc, pkey, pnile, pcap, pgrow, List.set, Value.cells, ↓popG_eq, ↓pop.eq_1, ↓List.getElem?_map, ↓List.getElem?_cons_zero, ↓List.getElem?_cons_succ, Value.oneCell', Nat.reduceAdd, Nat.reduceMul, Nat.reduceSub, Nat.reduceLeDiff, Nat.reduceEqDiff, ↓reduceIte, ne_eq, reduceCtorEq, forall_const, exists_and_left, exists_eq_left', eq_self, Nat.reduceLT, Int.reduceLT, Int.reduceLE, Int.reduceToNat, Int.reduceAdd, Int.reduceSub, Int.reduceNeg, hnm, Tryd.tf0, Tryd.tf3, Tryd.tf4, Tryd.tf9, Tryd.tf26, Tryd.teq45, Tryd.teq94, Tryd.teq104, Tryd.teq113, Tryd.teq114, Tryd.call61, Tryd.call62, Tryd.call63, hr1, hr2, hn1, hn2, hlen]); repeat (refine And.intro (by omega) ?_))
    | ((with_reducible first | apply WL_nil | apply W_label | apply W_skip | apply W_exit | apply W_ret); try simp only [seqK, blockK, scopeK, ↓reduceIte, Nat.reduceEqDiff])
    | (with_reducible apply W_cond_k; intro _ _ ea eb; (simp only [condK, cob, opnd, constPV, Nat.reduceEqDiff, Nat.reduceLT, ↓reduceIte, hcb, reduceCtorEq, forall_const, ne_eq]); subst ea eb; first | (refine ⟨fun hc => ?_, fun hc => ?_⟩ <;> first | (exfalso; omega) | (exfalso; exact hc trivial) | skip) | skip)
    | (with_reducible apply hnx; clear hnx nx)
    | (with_reducible refine And.intro (by omega) ?_)
    | (with_reducible refine And.intro ?_ ?_)
    | (with_reducible refine pcall_k (c2) ?_; rintro _ _ ⟨rfl, rfl⟩ -; refine Ev_in ?_)
    | (clear hnx nx; with_reducible apply hnx; clear hnx nx)
    | (clear hnx nx; clear hnx nx; with_reducible apply hnx; clear hnx nx)
    | (clear hnx nx; clear hnx nx; clear hnx nx; with_reducible apply hnx; clear hnx nx))
      all_goals first
        | exact absurd trivial hc
        | exact fun h => False.elim h
        | (exfalso
           omega)
        | skip
      refine hlp _ (n - (out.length + 1)) ⟨fr 66 [(10, pn (out.length + 1)), (3, pn n), (9, .row M 1 (n + 1)), (0, pstr r'), (1, .val (.string ⟨#[c]⟩)), (2, .val (.int .i64 0))], [(M, ⟨9, true, 1, (out ++ [t]).map pstr ++ List.replicate (n + 1 - (out.length + 1)) (.val (.string ⟨#[]⟩))⟩)]⟩ (by omega) ?_ ⟨out.length + 1, r', out ++ [t], by omega, rfl, by simp, hcr, by omega, by simpa using hsp, rfl⟩
      rw [hrep, set_mid (by simp), List.map_append]
      refine Wk_fr (by simp only [wkb, Nat.reduceEqDiff, Nat.reduceLT, ↓reduceIte, pn]) ?_
      rw [List.append_assoc]
      exact Sub_refl (by simp [names])
  · have hi2 : out.length = n := by omega
    have hr0 : c ∉ r := List.count_eq_zero.1 (by omega)
    rw [splitF_none hr0] at hsp
    repeat' (first
    | (with_reducible apply W_seq_k; intro nx hnx)
    | (with_reducible first | apply W_block | apply W_scope)
    | (with_reducible refine W_prune 3855 ?_; simp only [prb, Nat.reducePow, Nat.reduceDiv, Nat.reduceMod, Nat.reduceBEq]; with_reducible apply W_region_l)
    | ((first | (with_reducible apply WL_op; intro nx hnx) | with_reducible refine Ev_out ?_ | (with_reducible refine pfresh_k hnm fun nm hnm => ?_; (try simp only [fmb] at hnm)) | (with_reducible refine pborn_mu hnm fun nm hnm => ?_; (try simp only [fmb] at hnm)) | (with_reducible refine pmaybe_k ?_; intro bn hbn)); try (simp (maxSteps := 2000000) (disch := omega) only [evb, evd, pbuiltin, constPV, pnck, seqK, blockK, scopeK, pbin, pun, ppick, plen, piaddr, pindex, pfield, pslice, pbound, pconv, pelems, pextract, pmm, PV.mem?, PV.one, PV.cells, pageq, peqs, peq1, pmakes, pstore, pbytes, pmark, pusd, pust, psrc, pkey, pnile, pcap, pgrow, List.set, Value.cells, ↓popG_eq, ↓pop.eq_1, ↓List.getElem?_map, ↓List.getElem?_cons_zero, ↓List.getElem?_cons_succ, Value.oneCell', Nat.reduceAdd, Nat.reduceMul, Nat.reduceSub, Nat.reduceLeDiff, Nat.reduceEqDiff, ↓reduceIte, ne_eq, reduceCtorEq, forall_const, exists_and_left, exists_eq_left', eq_self, Nat.reduceLT, Int.reduceLT, Int.reduceLE, Int.reduceToNat, Int.reduceAdd, Int.reduceSub, Int.reduceNeg, hnm, Tryd.tf0, Tryd.tf3, Tryd.tf4, Tryd.tf9, Tryd.tf26, Tryd.teq45, Tryd.teq94, Tryd.teq104, Tryd.teq113, Tryd.teq114, Tryd.call61, Tryd.call62, Tryd.call63, hlen]); repeat (refine And.intro (by omega) ?_))
    | ((with_reducible first | apply WL_nil | apply W_label | apply W_skip | apply W_exit | apply W_ret); try simp only [seqK, blockK, scopeK, ↓reduceIte, Nat.reduceEqDiff])
    | (with_reducible apply W_cond_k; intro _ _ ea eb; (simp only [condK, cob, opnd, constPV, Nat.reduceEqDiff, Nat.reduceLT, ↓reduceIte, hcb, reduceCtorEq, forall_const, ne_eq]); subst ea eb; first | (refine ⟨fun hc => ?_, fun hc => ?_⟩ <;> first | (exfalso; omega) | (exfalso; exact hc trivial) | skip) | skip)
    | (with_reducible apply hnx; clear hnx nx)
    | (with_reducible refine And.intro (by omega) ?_)
    | (with_reducible refine And.intro ?_ ?_)
    | (clear hnx nx; with_reducible apply hnx; clear hnx nx)
    | (clear hnx nx; clear hnx nx; with_reducible apply hnx; clear hnx nx)
    | (clear hnx nx; clear hnx nx; clear hnx nx; with_reducible apply hnx; clear hnx nx))
    all_goals first
      | exact absurd trivial hc
      | exact fun h => False.elim h
      | (exfalso
         omega)
      | skip
    rw [hrep, set_mid (by simp), hi2]
    refine hfin _ _ (Fin_ret1 rfl (Sub_refl (by simp [names])) ?_)
    simp only [fr_getD_cons, Nat.reduceEqDiff, Nat.reduceLT, ↓reduceIte]
    rw [hsp]
    refine .inr ⟨M, ?_, ?_⟩
    · rw [List.length_append, hi2]
      rfl
    · rw [List.map_append, Nat.sub_self]
      rfl
theorem split_r (G : Globs) (s : List UInt8) (c : UInt8) (hs : s.length ≤ 100000000) : PCalls Tryd.prog G 38 [pstr s, .val (.string ⟨#[c]⟩)] [] (CRS (splitF c s)) := by
  have c1 := genSplit_r G s c hs
  (refine PCalls_f Tryd.func38 rfl Tryd.ntmps38 Tryd.results38 (by simp) fun fin hfin => ?_; have hnm : True := trivial; simp (maxSteps := 2000000) (disch := omega) only [evb, evd, pbuiltin, constPV, pnck, seqK, blockK, scopeK, pbin, pun, ppick, plen, piaddr, pindex, pfield, pslice, pbound, pconv, pelems, pextract, pmm, PV.mem?, PV.one, PV.cells, pageq, peqs, peq1, pmakes, pstore, pbytes, pmark, pusd, pust, psrc, pkey, pnile, pcap, pgrow, List.set, Value.cells, ↓popG_eq, ↓pop.eq_1, ↓List.getElem?_map, ↓List.getElem?_cons_zero, ↓List.getElem?_cons_succ, Value.oneCell', Nat.reduceAdd, Nat.reduceMul, Nat.reduceSub, Nat.reduceLeDiff, Nat.reduceEqDiff, ↓reduceIte, ne_eq, reduceCtorEq, forall_const, exists_and_left, exists_eq_left', eq_self, Nat.reduceLT, Int.reduceLT, Int.reduceLE, Int.reduceToNat, Int.reduceAdd, Int.reduceSub, Int.reduceNeg, hnm, Tryd.tf3, Tryd.tf9, Tryd.tf26, Tryd.teq45, Tryd.teq94, Tryd.teq104, Tryd.teq113, Tryd.teq114, Tryd.call54])
  repeat' (first
    | (with_reducible apply W_seq_k; intro nx hnx)
    | (with_reducible first | apply W_block | apply W_scope)
    | (with_reducible refine W_prune 19 ?_; simp only [prb, Nat.reducePow, Nat.reduceDiv, Nat.reduceMod, Nat.reduceBEq]; with_reducible apply W_region_l)
    | ((first | (with_reducible apply WL_op; intro nx hnx) | with_reducible refine Ev_out ?_); try (simp (maxSteps := 2000000) (disch := omega) only [evb, evd, pbuiltin, constPV, pnck, seqK, blockK, scopeK, pbin, pun, ppick, plen, piaddr, pindex, pfield, pslice, pbound, pconv, pelems, pextract, pmm, PV.mem?, PV.one, PV.cells, pageq, peqs, peq1, pmakes, pstore, pbytes, pmark, pusd, pust, psrc, pkey, pnile, pcap, pgrow, List.set, Value.cells, ↓popG_eq, ↓pop.eq_1, ↓List.getElem?_map, ↓List.getElem?_cons_zero, ↓List.getElem?_cons_succ, Value.oneCell', Nat.reduceAdd, Nat.reduceMul, Nat.reduceSub, Nat.reduceLeDiff, Nat.reduceEqDiff, ↓reduceIte, ne_eq, reduceCtorEq, forall_const, exists_and_left, exists_eq_left', eq_self, Nat.reduceLT, Int.reduceLT, Int.reduceLE, Int.reduceToNat, Int.reduceAdd, Int.reduceSub, Int.reduceNeg, hnm, Tryd.tf3, Tryd.tf9, Tryd.tf26, Tryd.teq45, Tryd.teq94, Tryd.teq104, Tryd.teq113, Tryd.teq114, Tryd.call54]); repeat (refine And.intro (by omega) ?_))
    | ((with_reducible first | apply WL_nil | apply W_label | apply W_skip | apply W_exit | apply W_ret); try simp only [seqK, blockK, scopeK, ↓reduceIte, Nat.reduceEqDiff])
    | (with_reducible apply W_cond_k; intro _ _ ea eb; (simp only [condK, cob, opnd, constPV, Nat.reduceEqDiff, Nat.reduceLT, ↓reduceIte, hcb, reduceCtorEq, forall_const, ne_eq]); subst ea eb; first | (refine ⟨fun hc => ?_, fun hc => ?_⟩ <;> first | (exfalso; omega) | (exfalso; exact hc trivial) | skip) | skip)
    | (with_reducible apply hnx; clear hnx nx)
    | (with_reducible refine And.intro (by omega) ?_)
    | (with_reducible refine And.intro ?_ ?_)
    | ((with_reducible refine pcall_k c1 ?_; rintro _ _ (⟨hv, rfl, rfl⟩ | ⟨n, rfl, rfl⟩) - <;> refine Ev_in ?_))
    | (clear hnx nx; with_reducible apply hnx; clear hnx nx)
    | (clear hnx nx; clear hnx nx; with_reducible apply hnx; clear hnx nx)
    | (clear hnx nx; clear hnx nx; clear hnx nx; with_reducible apply hnx; clear hnx nx))
  · exact absurd hv splitF_ne
  · refine hfin _ _ (Fin_ret1 rfl (Sub_refl (by simp [names])) ?_)
    simp only [fr_getD_cons, Nat.reduceEqDiff, Nat.reduceLT, ↓reduceIte]
    exact .inr ⟨n, rfl, rfl⟩
/-- Texts in a row are turned no more. -/
theorem Px_sts {G : Globs} {O : Int} {t1 : TypeId} (l : List (List UInt8)) : Px G (.row O 1 l.length) [(O, ⟨t1, true, 1, l.map pstr⟩)] (.list 1 (l.map pstr)) [] := by
  have h := Px.freeze (G := G) (.row O 1 l.length) [(O, ⟨t1, true, 1, l.map pstr⟩)] O (o := ⟨t1, true, 1, l.map pstr⟩) (by simp only [look, if_true]) (by simp [frzOk, del])
  have e : frz O (l.map pstr) (.row O 1 l.length) = .list 1 (l.map pstr) := by
    simp only [frz, frz1, if_true]
    rw [if_pos ⟨by simp, by omega⟩, elemsOf, if_pos rfl, List.take_of_length_le (by simp)]
  simp only [e] at h
  simpa [frzH, del] using h
theorem CRS.frz {G : Globs} {f : FuncId} {args : List PV} {b : List (List UInt8)} (h : PCalls Tryd.prog G f args [] (CRS b)) : PCalls Tryd.prog G f args [] (fun res H => res = .list 1 (b.map pstr) ∧ H = []) := by
  refine h.px fun res H hR => ?_
  rcases hR with ⟨rfl, rfl, rfl⟩ | ⟨N, rfl, rfl⟩
  · exact ⟨_, _, Px.nil 1 _, rfl, rfl⟩
  · exact ⟨_, _, Px_sts b, rfl, rfl⟩
theorem split_c (G : Globs) (s : List UInt8) (c : UInt8) (hs : s.length ≤ 100000000) : PCalls Tryd.prog G 38 [pstr s, .val (.string ⟨#[c]⟩)] [] (fun res H => res = .list 1 ((splitF c s).map pstr) ∧ H = []) := CRS.frz (split_r G s c hs)
end Go.PM

namespace Go.PM
open Go.Proofs
attribute [local irreducible] W PCalls pcall pcallI WL
set_option maxRecDepth 100000
set_option maxHeartbeats 8000000
theorem cutF_le (s : List UInt8) (c : UInt8) : (cutF s c).1.length ≤ s.length := by
  unfold cutF
  split
  · simp
    omega
  · simp
theorem splitF_step {c : UInt8} {s : List UInt8} (h : s ≠ []) : ((cutF s c).2.2 = true ∧ splitF c s = (cutF s c).1 :: splitF c (cutF s c).2.1 ∧ (cutF s c).2.1.length < s.length ∧ (cutF s c).1.length ≤ s.length) ∨ ((cutF s c).2.2 = false ∧ splitF c s = [s]) := by
  rcases idx_cases c s with ⟨h1, h2⟩ | ⟨t, r, h1, h2, h3⟩
  · refine .inr ⟨?_, splitF_none h2⟩
    simp [cutF, h1]
  · have e : cutF s c = (t, r, true) := by
      unfold cutF
      rw [h3, if_pos (by omega), Int.toNat_natCast, h1, List.take_left' rfl, ← List.drop_drop, List.drop_left' rfl]
      rfl
    refine .inl ⟨by rw [e], ?_, ?_⟩
    · rw [e]
      conv => lhs; rw [h1]
      exact splitF_cut h2
    · rw [e, h1]
      simp
      omega
/-- The cells of the texts of bases. -/
def secs (xs : List (Ltr × List UInt8)) : List PV := xs.map fun x => pstr x.2
/-- What Parse has read so far. -/
@[reducible] def parS (s r : List UInt8) (xs : List (Ltr × List UInt8)) (A B : Int) : PState := ⟨fr 130 [(6, .row B 1 xs.length), (5, .row A 5 xs.length), (0, pstr r)], [(B, ⟨9, true, 1, secs xs⟩), (A, ⟨45, true, 5, flatL (xs.map Prod.fst)⟩)]⟩
theorem lineF_five {t x b m k w : List UInt8} (h : splitF 32 t = [x, b, m, k, w]) : lineF t = if x = [] ∨ b = [] then none else if (numF m).2 && ((numF k).2 && (numF w).2) then some (⟨x, 0, (numF m).1, (numF k).1, (numF w).1⟩, b) else none := by
  unfold lineF
  rw [h]
theorem lineF_not {t : List UInt8} (h : (splitF 32 t).length ≠ 5) : lineF t = none := by
  unfold lineF
  split
  · rename_i h2
    rw [h2] at h
    exact absurd rfl h
  · rfl
theorem five {l : List (List UInt8)} (h : l.length = 5) : ∃ x b m k w, l = [x, b, m, k, w] := by
  match l, h with
  | [x, b, m, k, w], _ => exact ⟨x, b, m, k, w, rfl⟩
theorem parseF_bad {s : List UInt8} {xs : List (Ltr × List UInt8)} (hs : s.length ≤ 65536) (h : readL (splitF 10 s) = (xs, false)) : parseF s = ([], (xs.length : Int) + 1, 2) := by
  unfold parseF
  rw [if_neg (by omega), h, if_pos rfl]
theorem parseF_none {s : List UInt8} {xs : List (Ltr × List UInt8)} {i : Nat} (hs : s.length ≤ 65536) (h : readL (splitF 10 s) = (xs, true)) (hi : i < xs.length) (h1 : findT (xs.map Prod.fst) xs[i].2 = none) (h2 : ∀ x ∈ xs.take i, (findT (xs.map Prod.fst) x.2).isSome = true) : parseF s = ([], (i : Int) + 1, 6) := by
  unfold parseF
  rw [if_neg (by omega), h, if_neg (by simp)]
  have : (xs.findIdx? fun x => (findT (xs.map Prod.fst) x.2).isNone) = some i := by
    rw [List.findIdx?_eq_some_iff_getElem]
    refine ⟨hi, by simp [h1], fun j hj => ?_⟩
    have := h2 xs[j] (by rw [List.mem_take_iff_getElem]; exact ⟨j, by omega, rfl⟩)
    cases hq : findT (xs.map Prod.fst) xs[j].2 with
    | none => rw [hq] at this; cases this
    | some k => simp
  rw [this]
theorem parseF_ok {s : List UInt8} {xs : List (Ltr × List UInt8)} (hs : s.length ≤ 65536) (h : readL (splitF 10 s) = (xs, true)) (h2 : ∀ x ∈ xs, (findT (xs.map Prod.fst) x.2).isSome = true) : parseF s = if validF (basedF xs) then (basedF xs, 0, 0) else ([], 0, 1) := by
  unfold parseF
  rw [if_neg (by omega), h, if_neg (by simp)]
  have : (xs.findIdx? fun x => (findT (xs.map Prod.fst) x.2).isNone) = none := by
    rw [List.findIdx?_eq_none_iff]
    intro x hx
    have := h2 x hx
    cases hq : findT (xs.map Prod.fst) x.2 with
    | none => rw [hq] at this; cases this
    | some k => simp
  rw [this]
theorem findT_texts {a b : List Ltr} (h : texts a = texts b) (t : List UInt8) : findT a t = findT b t := by
  have e : ∀ a : List Ltr, findT a t = (texts a).findIdx? fun x => decide (x = t) := fun a => by
    unfold findT texts
    rw [List.findIdx?_map]
    rfl
  rw [e, e, h]
/-- The letters, the first i with their bases. -/
def upto (xs : List (Ltr × List UInt8)) (i : Nat) : List Ltr := (basedF xs).take i ++ (xs.map Prod.fst).drop i
theorem basedF_len {xs : List (Ltr × List UInt8)} : (basedF xs).length = xs.length := by simp [basedF]
theorem upto_zero {xs : List (Ltr × List UInt8)} : upto xs 0 = xs.map Prod.fst := by simp [upto]
theorem upto_full {xs : List (Ltr × List UInt8)} : upto xs xs.length = basedF xs := by
  unfold upto
  rw [List.take_of_length_le (by simp [basedF]), List.drop_of_length_le (by simp), List.append_nil]
theorem upto_get {xs : List (Ltr × List UInt8)} {i : Nat} (h : i ≤ xs.length) (j : Nat) : (upto xs i)[j]? = if j < i then (basedF xs)[j]? else (xs.map Prod.fst)[j]? := by
  unfold upto
  have hl : ((basedF xs).take i).length = i := by
    rw [List.length_take, basedF_len]
    omega
  split
  · rename_i hj
    rw [List.getElem?_append_left (by omega), List.getElem?_take, if_pos hj]
  · rename_i hj
    rw [List.getElem?_append_right (by omega), hl, List.getElem?_drop, show i + (j - i) = j by omega]
theorem upto_len {xs : List (Ltr × List UInt8)} {i : Nat} (h : i ≤ xs.length) : (upto xs i).length = xs.length := by
  unfold upto
  rw [List.length_append, List.length_take, List.length_drop, basedF_len, List.length_map]
  omega
theorem based_get {xs : List (Ltr × List UInt8)} {j : Nat} (h : j < xs.length) : (basedF xs)[j]? = some { xs[j].1 with base := (findT (xs.map Prod.fst) xs[j].2).getD 0 } := by
  unfold basedF
  rw [List.getElem?_map, List.getElem?_eq_getElem h]
  rfl
theorem upto_texts {xs : List (Ltr × List UInt8)} {i : Nat} (h : i ≤ xs.length) : texts (upto xs i) = texts (xs.map Prod.fst) := by
  apply List.ext_getElem?
  intro j
  simp only [texts, List.getElem?_map]
  rw [upto_get h]
  split
  · rename_i hj
    rw [based_get (by omega), List.getElem?_eq_getElem (by omega)]
    rfl
  · rw [List.getElem?_map]
theorem upto_step {xs : List (Ltr × List UInt8)} {i k : Nat} (h : i < xs.length) (hk : findT (xs.map Prod.fst) xs[i].2 = some k) (hl : i < (upto xs i).length) : (upto xs i).set i { (upto xs i)[i] with base := k } = upto xs (i + 1) := by
  have hx : (upto xs i)[i] = xs[i].1 := by
    have := upto_get (Nat.le_of_lt h) i
    rw [if_neg (by omega), List.getElem?_eq_getElem hl, List.getElem?_map, List.getElem?_eq_getElem h] at this
    exact Option.some.inj this
  rw [hx]
  apply List.ext_getElem?
  intro j
  rw [List.getElem?_set, upto_get h, upto_get (Nat.le_of_lt h), upto_len (Nat.le_of_lt h)]
  by_cases hj : i = j
  · subst hj
    rw [if_pos rfl, if_pos (by omega), if_pos (by omega), based_get h, hk]
    rfl
  · rw [if_neg hj]
    by_cases h2 : j < i
    · rw [if_pos h2, if_pos (by omega)]
    · rw [if_neg h2, if_neg (by omega)]
theorem valN_from : ∀ (s : List UInt8) (acc : Int), 0 ≤ acc → s.all dig = true → 0 ≤ s.foldl (fun n c => 10 * n + ((c.toNat : Int) - 48)) acc ∧ s.foldl (fun n c => 10 * n + ((c.toNat : Int) - 48)) acc < (acc + 1) * 10 ^ s.length
  | [], acc, h, _ => by simp; omega
  | c :: s, acc, h, hd => by
    simp only [List.all_cons, Bool.and_eq_true] at hd
    have h1 : 48 ≤ (c.toNat : Int) ∧ (c.toNat : Int) ≤ 57 := by
      have := hd.1
      unfold dig at this
      simpa using this
    obtain ⟨h2, h3⟩ := valN_from s (10 * acc + ((c.toNat : Int) - 48)) (by omega) hd.2
    refine ⟨h2, Int.lt_of_lt_of_le h3 ?_⟩
    rw [List.length_cons, Int.pow_succ, Int.mul_comm (10 ^ s.length) 10, ← Int.mul_assoc]
    exact Int.mul_le_mul_of_nonneg_right (by omega) (Int.pow_nonneg (by omega))
theorem numF_bd (s : List UInt8) : 0 ≤ (numF s).1 ∧ (numF s).1 < 1000000 := by
  unfold numF
  split
  · rename_i h
    unfold numB at h
    simp only [Bool.and_eq_true, decide_eq_true_eq] at h
    obtain ⟨h1, h2⟩ := valN_from s 0 (by omega) h.2
    have h3 : (10 : Int) ^ s.length ≤ 10 ^ 6 := by
      have : (10 : Nat) ^ s.length ≤ 10 ^ 6 := Nat.pow_le_pow_right (by omega) (by omega)
      exact_mod_cast this
    show 0 ≤ valN s ∧ valN s < 1000000
    unfold valN
    omega
  · simp
/-- Letters with small numbers. -/
def smallL (x : Ltr) : Prop := x.text.length ≤ 65536 ∧ (0 ≤ x.mark ∧ x.mark < 1000000) ∧ (0 ≤ x.case_ ∧ x.case_ < 1000000) ∧ (0 ≤ x.width ∧ x.width < 1000000)
theorem based_HA {xs : List (Ltr × List UInt8)} (hl : xs.length ≤ 65536) (h : ∀ x ∈ xs, smallL x.1) : HA (basedF xs) := by
  refine ⟨by rw [basedF_len]; omega, fun y hy => ?_⟩
  unfold basedF at hy
  obtain ⟨x, hx, rfl⟩ := List.mem_map.1 hy
  obtain ⟨h1, h2, h3, h4⟩ := h x hx
  refine ⟨?_, ⟨?_, ?_⟩, ?_, ?_⟩ <;> simp only <;> omega
section
variable {P : Program} {G : Globs} {σ : PState}
/-- A call to which letters in a row are lent. -/
theorem pcall_lts {fn : FuncId} {d : Option Tmp} {K : PState → Prop} {q : Bool} {A : Int} {t : TypeId} {a : List Ltr} {n : Nat} {v : Value} (hl : look σ.heap A = some ⟨t, true, 5, flatL a⟩) (hn : n = a.length)
    (hc : PCalls P G fn [ltsP a] [] (fun res H => res = .val v ∧ H = [])) (hk : K (PState.put σ d (.val v))) : @pcallI q P G σ d fn [.row A 5 n] ⟨K⟩ := by
  subst hn
  refine pcall_lend A _ hl (R := fun res H => res = .val v ∧ H = []) ?_ ?_
  · have := frz_lts A a
    simp only [frz] at this
    simp only [List.map_cons, List.map_nil]
    rw [this]
    exact hc
  · rintro res H ⟨rfl, rfl⟩
    exact ⟨rfl, .val v, hk⟩
end
theorem parse_c (G : Globs) (s : List UInt8) : PCalls Tryd.prog G 19 [pstr s] [] (fun res H => ∃ o, res = .tuple [o, pint .i64 (parseF s).2.1, pint .i64 (parseF s).2.2] ∧ CRL (parseF s).1 o H) := by
  (refine PCalls_f Tryd.func19 rfl Tryd.ntmps19 Tryd.results19 (by simp) fun fin hfin => ?_; have hnm : True := trivial; simp (maxSteps := 2000000) (disch := omega) only [evb, evd, pbuiltin, constPV, pnck, seqK, blockK, scopeK, pbin, pun, ppick, plen, piaddr, pindex, pfield, pslice, pbound, pconv, pelems, pextract, pmm, PV.mem?, PV.one, PV.cells, pageq, peqs, peq1, pmakes, pstore, pbytes, pmark, pusd, pust, psrc, pkey, pnile, pcap, pgrow, List.set, Value.cells, ↓popG_eq, ↓pop.eq_1, ↓List.getElem?_map, ↓List.getElem?_cons_zero, ↓List.getElem?_cons_succ, Value.oneCell', Nat.reduceAdd, Nat.reduceMul, Nat.reduceSub, Nat.reduceLeDiff, Nat.reduceEqDiff, ↓reduceIte, ne_eq, reduceCtorEq, forall_const, exists_and_left, exists_eq_left', eq_self, Nat.reduceLT, Int.reduceLT, Int.reduceLE, Int.reduceToNat, Int.reduceAdd, Int.reduceSub, Int.reduceNeg, hnm, Tryd.tf0, Tryd.tf1, Tryd.tf2, Tryd.tf3, Tryd.tf4, Tryd.tf9, Tryd.tf23, Tryd.tf26, Tryd.tf36, Tryd.tf45, Tryd.teq45, Tryd.tf56, Tryd.tf59, Tryd.tf64, Tryd.teq94, Tryd.teq104, Tryd.teq113, Tryd.teq114, Tryd.call37, Tryd.call38, Tryd.call39, Tryd.call40, Tryd.call42])
  repeat' (first
    | (with_reducible apply W_seq_k; intro nx hnx)
    | (with_reducible first | apply W_block | apply W_scope)
    | (with_reducible refine W_prune 567907468902246771870523037057021 ?_; simp only [prb, Nat.reducePow, Nat.reduceDiv, Nat.reduceMod, Nat.reduceBEq]; with_reducible apply W_region_l)
    | ((first | (with_reducible apply WL_op; intro nx hnx) | with_reducible refine Ev_out ?_ | (with_reducible refine pfresh_k hnm fun nm hnm => ?_; (try simp only [fmb] at hnm)) | (with_reducible refine pborn_mu hnm fun nm hnm => ?_; (try simp only [fmb] at hnm)) | (with_reducible refine pmaybe_k ?_; intro bn hbn)); try (simp (maxSteps := 2000000) (disch := omega) only [evb, evd, pbuiltin, constPV, pnck, seqK, blockK, scopeK, pbin, pun, ppick, plen, piaddr, pindex, pfield, pslice, pbound, pconv, pelems, pextract, pmm, PV.mem?, PV.one, PV.cells, pageq, peqs, peq1, pmakes, pstore, pbytes, pmark, pusd, pust, psrc, pkey, pnile, pcap, pgrow, List.set, Value.cells, ↓popG_eq, ↓pop.eq_1, ↓List.getElem?_map, ↓List.getElem?_cons_zero, ↓List.getElem?_cons_succ, Value.oneCell', Nat.reduceAdd, Nat.reduceMul, Nat.reduceSub, Nat.reduceLeDiff, Nat.reduceEqDiff, ↓reduceIte, ne_eq, reduceCtorEq, forall_const, exists_and_left, exists_eq_left', eq_self, Nat.reduceLT, Int.reduceLT, Int.reduceLE, Int.reduceToNat, Int.reduceAdd, Int.reduceSub, Int.reduceNeg, hnm, Tryd.tf0, Tryd.tf1, Tryd.tf2, Tryd.tf3, Tryd.tf4, Tryd.tf9, Tryd.tf23, Tryd.tf26, Tryd.tf36, Tryd.tf45, Tryd.teq45, Tryd.tf56, Tryd.tf59, Tryd.tf64, Tryd.teq94, Tryd.teq104, Tryd.teq113, Tryd.teq114, Tryd.call37, Tryd.call38, Tryd.call39, Tryd.call40, Tryd.call42]); repeat (refine And.intro (by omega) ?_))
    | ((with_reducible first | apply WL_nil | apply W_label | apply W_skip | apply W_exit | apply W_ret); try simp only [seqK, blockK, scopeK, ↓reduceIte, Nat.reduceEqDiff])
    | (with_reducible apply pguard_intro <;> (intro hc; (try simp only [hcb, reduceCtorEq, forall_const, ne_eq] at hc); first | (exfalso; omega) | (exfalso; exact hc trivial) | refine Ev_in ?_))
    | (with_reducible apply W_cond_k; intro _ _ ea eb; (simp only [condK, cob, opnd, constPV, Nat.reduceEqDiff, Nat.reduceLT, ↓reduceIte, hcb, reduceCtorEq, forall_const, ne_eq]); subst ea eb; first | (refine ⟨fun hc => ?_, fun hc => ?_⟩ <;> first | (exfalso; omega) | (exfalso; exact hc trivial) | skip) | skip)
    | (with_reducible apply hnx; clear hnx nx)
    | (with_reducible refine And.intro (by omega) ?_)
    | (with_reducible refine And.intro ?_ ?_)
    | (clear hnx nx; with_reducible apply hnx; clear hnx nx)
    | (clear hnx nx; clear hnx nx; with_reducible apply hnx; clear hnx nx)
    | (clear hnx nx; clear hnx nx; clear hnx nx; with_reducible apply hnx; clear hnx nx))
  all_goals first | exact absurd trivial hc | contradiction | exact fun h => False.elim h | (exfalso; omega) | (exfalso; have hc := of_decide_eq_false hc; omega) | (exfalso; simp only [Bool.not_false, Bool.not_true, decide_eq_true_eq, decide_eq_false_iff_not] at *; omega) | skip
  · have e : parseF s = ([], 0, 4) := by
      unfold parseF
      rw [if_pos (by omega)]
    refine hfin _ _ (Fin_ret3 rfl rfl rfl (Sub_nil _) ?_); simp only [List.getD_cons_zero, List.getD_cons_succ, fr_getD_cons, fr_getD_nil, Nat.reduceEqDiff, Nat.reduceLT, ↓reduceIte]
    rw [e]
    exact ⟨pnil, rfl, .inl ⟨rfl, rfl, by trivial⟩⟩
  have hs : s.length ≤ 65536 := by omega
  refine W_adopt_f 5 45 5 (by simp only [fr_getD_cons, Nat.reduceEqDiff, Nat.reduceLT, ↓reduceIte]) fun A0 hA => ?_
  refine W_adopt_f 6 9 1 (by simp only [fr_getD_cons, Nat.reduceEqDiff, Nat.reduceLT, ↓reduceIte]) fun B0 hB => ?_
  have hAB : (B0 = A0) = False ∧ (A0 = B0) = False := by
    simp only [names, List.map_cons, List.map_nil, List.mem_cons, List.not_mem_nil, or_false] at hB
    exact ⟨eq_false hB, eq_false fun e => hB e.symm⟩
  refine W_loop_k (fun z τ => ∃ (r : List UInt8) (xs : List (Ltr × List UInt8)) (A B : Int), ((B = A) = False ∧ (A = B) = False) ∧ z = r.length ∧ xs.length + r.length ≤ s.length ∧ readL (splitF 10 s) = (xs ++ (readL (splitF 10 r)).1, (readL (splitF 10 r)).2) ∧ (∀ x ∈ xs, smallL x.1) ∧ τ = parS s r xs A B) s.length
    (parS s s [] A0 B0) (by
    refine Wk_fr (by simp only [wkb, Nat.reduceEqDiff, Nat.reduceLT, ↓reduceIte, pn, List.length_nil]) ?_
    exact Sub_refl (by simp [names, hAB])) ⟨s, [], A0, B0, hAB, rfl, by simp, by simp, by simp, rfl⟩ ?_
  clear hAB hB hA hnm
  have hnm : True := trivial
  rintro z τ ⟨r, xs, A, B, hAB, rfl, hxl, hrd, hsm, rfl⟩ lp hlp
  by_cases hr0 : r = []
  · subst hr0
    have hrd : readL (splitF 10 s) = (xs, true) := by rw [hrd]; simp [splitF, readL]
    repeat' (first
    | (with_reducible apply W_seq_k; intro nx hnx)
    | (with_reducible first | apply W_block | apply W_scope)
    | (with_reducible refine W_prune 567907468902246771870523037057021 ?_; simp only [prb, Nat.reducePow, Nat.reduceDiv, Nat.reduceMod, Nat.reduceBEq]; with_reducible apply W_region_l)
    | ((first | (with_reducible apply WL_op; intro nx hnx) | with_reducible refine Ev_out ?_ | (with_reducible refine pfresh_k hnm fun nm hnm => ?_; (try simp only [fmb] at hnm)) | (with_reducible refine pborn_mu hnm fun nm hnm => ?_; (try simp only [fmb] at hnm)) | (with_reducible refine pmaybe_k ?_; intro bn hbn)); try (simp (maxSteps := 2000000) (disch := omega) only [evb, evd, pbuiltin, constPV, pnck, seqK, blockK, scopeK, pbin, pun, ppick, plen, piaddr, pindex, pfield, pslice, pbound, pconv, pelems, pextract, pmm, PV.mem?, PV.one, PV.cells, pageq, peqs, peq1, pmakes, pstore, pbytes, pmark, pusd, pust, psrc, pkey, pnile, pcap, pgrow, List.set, Value.cells, ↓popG_eq, ↓pop.eq_1, ↓List.getElem?_map, ↓List.getElem?_cons_zero, ↓List.getElem?_cons_succ, Value.oneCell', Nat.reduceAdd, Nat.reduceMul, Nat.reduceSub, Nat.reduceLeDiff, Nat.reduceEqDiff, ↓reduceIte, ne_eq, reduceCtorEq, forall_const, exists_and_left, exists_eq_left', eq_self, Nat.reduceLT, Int.reduceLT, Int.reduceLE, Int.reduceToNat, Int.reduceAdd, Int.reduceSub, Int.reduceNeg, hnm, Tryd.tf0, Tryd.tf1, Tryd.tf2, Tryd.tf3, Tryd.tf4, Tryd.tf9, Tryd.tf23, Tryd.tf26, Tryd.tf36, Tryd.tf45, Tryd.teq45, Tryd.tf56, Tryd.tf59, Tryd.tf64, Tryd.teq94, Tryd.teq104, Tryd.teq113, Tryd.teq114, Tryd.call37, Tryd.call38, Tryd.call39, Tryd.call40, Tryd.call42, hAB]); repeat (refine And.intro (by omega) ?_))
    | ((with_reducible first | apply WL_nil | apply W_label | apply W_skip | apply W_exit | apply W_ret); try simp only [seqK, blockK, scopeK, ↓reduceIte, Nat.reduceEqDiff])
    | (with_reducible apply pguard_intro <;> (intro hc; (try simp only [hcb, reduceCtorEq, forall_const, ne_eq] at hc); first | (exfalso; omega) | (exfalso; exact hc trivial) | refine Ev_in ?_))
    | (with_reducible apply W_cond_k; intro _ _ ea eb; (simp only [condK, cob, opnd, constPV, Nat.reduceEqDiff, Nat.reduceLT, ↓reduceIte, hcb, reduceCtorEq, forall_const, ne_eq]); subst ea eb; first | (refine ⟨fun hc => ?_, fun hc => ?_⟩ <;> first | (exfalso; omega) | (exfalso; exact hc trivial) | skip) | skip)
    | (with_reducible apply hnx; clear hnx nx)
    | (with_reducible refine And.intro (by omega) ?_)
    | (with_reducible refine And.intro ?_ ?_)
    | (clear hnx nx; with_reducible apply hnx; clear hnx nx)
    | (clear hnx nx; clear hnx nx; with_reducible apply hnx; clear hnx nx)
    | (clear hnx nx; clear hnx nx; clear hnx nx; with_reducible apply hnx; clear hnx nx))
    all_goals first | exact absurd trivial hc | contradiction | exact fun h => False.elim h | (exfalso; omega) | (exfalso; have hc := of_decide_eq_false hc; omega) | (exfalso; simp only [Bool.not_false, Bool.not_true, decide_eq_true_eq, decide_eq_false_iff_not] at *; omega) | skip
    refine W_loop_k (fun z τ => ∃ i : Nat, i ≤ xs.length ∧ z = xs.length - i ∧ (∀ x ∈ xs.take i, (findT (xs.map Prod.fst) x.2).isSome = true) ∧ τ = ⟨fr 130 [(108, pn i), (107, pint .i64 xs.length), (106, .row B 1 xs.length), (5, .row A 5 xs.length)], [(A, ⟨45, true, 5, flatL (upto xs i)⟩), (B, ⟨9, true, 1, secs xs⟩)]⟩) xs.length
      ⟨fr 130 [(108, pn 0), (107, pint .i64 xs.length), (106, .row B 1 xs.length), (5, .row A 5 xs.length)], [(A, ⟨45, true, 5, flatL (upto xs 0)⟩), (B, ⟨9, true, 1, secs xs⟩)]⟩ (by
      rw [upto_zero]
      refine Wk_fr (by simp only [wkb, Nat.reduceEqDiff, Nat.reduceLT, ↓reduceIte, pn]) ?_
      refine ⟨fun x hx => ?_, by simp [names, hAB]⟩
      simp only [List.mem_cons, List.not_mem_nil, or_false] at hx ⊢
      rcases hx with rfl | rfl
      · exact .inr rfl
      · exact .inl rfl) ⟨0, by omega, by omega, by simp, rfl⟩ ?_
    rintro z τ ⟨i, hi, rfl, hsome, rfl⟩ lp2 hlp2
    have hul := upto_len hi
    have hfl := flatL_len (upto xs i)
    rw [hul] at hfl
    have hlx : (secs xs).length = xs.length := List.length_map ..
    by_cases hil : i < xs.length
    · have hgb : (secs xs)[i]? = some (pstr xs[i].2) := by unfold secs; rw [List.getElem?_map, List.getElem?_eq_getElem hil]; rfl
      have cx := fun c : Int => indexFunc_c G (upto xs i) xs[i].2 A c (by omega)
      rw [hul] at cx
      cases hfk : findT (xs.map Prod.fst) xs[i].2 with
      | none =>
        have hid : idxT (upto xs i) xs[i].2 = -1 := by rw [idxT, findT_texts (upto_texts hi), hfk]
        rw [hid] at cx
        repeat' (first
    | (with_reducible apply W_seq_k; intro nx hnx)
    | (with_reducible first | apply W_block | apply W_scope)
    | (with_reducible refine W_prune 567907468902246771870523037057021 ?_; simp only [prb, Nat.reducePow, Nat.reduceDiv, Nat.reduceMod, Nat.reduceBEq]; with_reducible apply W_region_l)
    | ((first | (with_reducible apply WL_op; intro nx hnx) | with_reducible refine Ev_out ?_ | (with_reducible refine pfresh_k hnm fun nm hnm => ?_; (try simp only [fmb] at hnm)) | (with_reducible refine pborn_mu hnm fun nm hnm => ?_; (try simp only [fmb] at hnm)) | (with_reducible refine pmaybe_k ?_; intro bn hbn)); try (simp (maxSteps := 2000000) (disch := omega) only [evb, evd, pbuiltin, constPV, pnck, seqK, blockK, scopeK, pbin, pun, ppick, plen, piaddr, pindex, pfield, pslice, pbound, pconv, pelems, pextract, pmm, PV.mem?, PV.one, PV.cells, pageq, peqs, peq1, pmakes, pstore, pbytes, pmark, pusd, pust, psrc, pkey, pnile, pcap, pgrow, List.set, Value.cells, ↓popG_eq, ↓pop.eq_1, ↓List.getElem?_map, ↓List.getElem?_cons_zero, ↓List.getElem?_cons_succ, Value.oneCell', Nat.reduceAdd, Nat.reduceMul, Nat.reduceSub, Nat.reduceLeDiff, Nat.reduceEqDiff, ↓reduceIte, ne_eq, reduceCtorEq, forall_const, exists_and_left, exists_eq_left', eq_self, Nat.reduceLT, Int.reduceLT, Int.reduceLE, Int.reduceToNat, Int.reduceAdd, Int.reduceSub, Int.reduceNeg, hnm, Tryd.tf0, Tryd.tf1, Tryd.tf2, Tryd.tf3, Tryd.tf4, Tryd.tf9, Tryd.tf23, Tryd.tf26, Tryd.tf36, Tryd.tf45, Tryd.teq45, Tryd.tf56, Tryd.tf59, Tryd.tf64, Tryd.teq94, Tryd.teq104, Tryd.teq113, Tryd.teq114, Tryd.call37, Tryd.call38, Tryd.call39, Tryd.call40, Tryd.call42, hAB, hgb, hfl, hlx]); repeat (refine And.intro (by omega) ?_))
    | ((with_reducible first | apply WL_nil | apply W_label | apply W_skip | apply W_exit | apply W_ret); try simp only [seqK, blockK, scopeK, ↓reduceIte, Nat.reduceEqDiff])
    | (with_reducible apply pguard_intro <;> (intro hc; (try simp only [hcb, reduceCtorEq, forall_const, ne_eq] at hc); first | (exfalso; omega) | (exfalso; exact hc trivial) | refine Ev_in ?_))
    | (with_reducible apply W_cond_k; intro _ _ ea eb; (simp only [condK, cob, opnd, constPV, Nat.reduceEqDiff, Nat.reduceLT, ↓reduceIte, hcb, reduceCtorEq, forall_const, ne_eq]); subst ea eb; first | (refine ⟨fun hc => ?_, fun hc => ?_⟩ <;> first | (exfalso; omega) | (exfalso; exact hc trivial) | skip) | skip)
    | (with_reducible apply hnx; clear hnx nx)
    | (with_reducible refine And.intro (by omega) ?_)
    | (with_reducible refine And.intro ?_ ?_)
    | ((refine pcall_midn [] [_, _] [_] rfl (cx _) ?_; rintro _ _ ⟨rfl, rfl⟩ -; refine Ev_in ?_))
    | (clear hnx nx; with_reducible apply hnx; clear hnx nx)
    | (clear hnx nx; clear hnx nx; with_reducible apply hnx; clear hnx nx)
    | (clear hnx nx; clear hnx nx; clear hnx nx; with_reducible apply hnx; clear hnx nx))
        all_goals first | exact absurd trivial hc | contradiction | exact fun h => False.elim h | (exfalso; omega) | (exfalso; have hc := of_decide_eq_false hc; omega) | (exfalso; simp only [Bool.not_false, Bool.not_true, decide_eq_true_eq, decide_eq_false_iff_not] at *; omega) | skip
        all_goals
          refine hfin _ _ (Fin_ret3 rfl rfl rfl (Sub_nil _) ?_); simp only [List.getD_cons_zero, List.getD_cons_succ, fr_getD_cons, fr_getD_nil, Nat.reduceEqDiff, Nat.reduceLT, ↓reduceIte]
          rw [parseF_none hs hrd hil hfk hsome]
          exact ⟨pnil, rfl, .inl ⟨rfl, rfl, by trivial⟩⟩
      | some kk =>
        have hid : idxT (upto xs i) xs[i].2 = kk := by rw [idxT, findT_texts (upto_texts hi), hfk]
        rw [hid] at cx
        have hbase := flatL_base (l := upto xs i) (i := i) (by omega) kk
        rw [upto_step hil hfk (by omega)] at hbase
        repeat' (first
    | (with_reducible apply W_seq_k; intro nx hnx)
    | (with_reducible first | apply W_block | apply W_scope)
    | (with_reducible refine W_prune 567907468902246771870523037057021 ?_; simp only [prb, Nat.reducePow, Nat.reduceDiv, Nat.reduceMod, Nat.reduceBEq]; with_reducible apply W_region_l)
    | ((first | (with_reducible apply WL_op; intro nx hnx) | with_reducible refine Ev_out ?_ | (with_reducible refine pfresh_k hnm fun nm hnm => ?_; (try simp only [fmb] at hnm)) | (with_reducible refine pborn_mu hnm fun nm hnm => ?_; (try simp only [fmb] at hnm)) | (with_reducible refine pmaybe_k ?_; intro bn hbn)); try (simp (maxSteps := 2000000) (disch := omega) only [evb, evd, pbuiltin, constPV, pnck, seqK, blockK, scopeK, pbin, pun, ppick, plen, piaddr, pindex, pfield, pslice, pbound, pconv, pelems, pextract, pmm, PV.mem?, PV.one, PV.cells, pageq, peqs, peq1, pmakes, pstore, pbytes, pmark, pusd, pust, psrc, pkey, pnile, pcap, pgrow, List.set, Value.cells, ↓popG_eq, ↓pop.eq_1, ↓List.getElem?_map, ↓List.getElem?_cons_zero, ↓List.getElem?_cons_succ, Value.oneCell', Nat.reduceAdd, Nat.reduceMul, Nat.reduceSub, Nat.reduceLeDiff, Nat.reduceEqDiff, ↓reduceIte, ne_eq, reduceCtorEq, forall_const, exists_and_left, exists_eq_left', eq_self, Nat.reduceLT, Int.reduceLT, Int.reduceLE, Int.reduceToNat, Int.reduceAdd, Int.reduceSub, Int.reduceNeg, hnm, Tryd.tf0, Tryd.tf1, Tryd.tf2, Tryd.tf3, Tryd.tf4, Tryd.tf9, Tryd.tf23, Tryd.tf26, Tryd.tf36, Tryd.tf45, Tryd.teq45, Tryd.tf56, Tryd.tf59, Tryd.tf64, Tryd.teq94, Tryd.teq104, Tryd.teq113, Tryd.teq114, Tryd.call37, Tryd.call38, Tryd.call39, Tryd.call40, Tryd.call42, hAB, hgb, hfl, hlx, hbase]); repeat (refine And.intro (by omega) ?_))
    | ((with_reducible first | apply WL_nil | apply W_label | apply W_skip | apply W_exit | apply W_ret); try simp only [seqK, blockK, scopeK, ↓reduceIte, Nat.reduceEqDiff])
    | (with_reducible apply pguard_intro <;> (intro hc; (try simp only [hcb, reduceCtorEq, forall_const, ne_eq] at hc); first | (exfalso; omega) | (exfalso; exact hc trivial) | refine Ev_in ?_))
    | (with_reducible apply W_cond_k; intro _ _ ea eb; (simp only [condK, cob, opnd, constPV, Nat.reduceEqDiff, Nat.reduceLT, ↓reduceIte, hcb, reduceCtorEq, forall_const, ne_eq]); subst ea eb; first | (refine ⟨fun hc => ?_, fun hc => ?_⟩ <;> first | (exfalso; omega) | (exfalso; exact hc trivial) | skip) | skip)
    | (with_reducible apply hnx; clear hnx nx)
    | (with_reducible refine And.intro (by omega) ?_)
    | (with_reducible refine And.intro ?_ ?_)
    | ((refine pcall_midn [] [_, _] [_] rfl (cx _) ?_; rintro _ _ ⟨rfl, rfl⟩ -; refine Ev_in ?_))
    | (clear hnx nx; with_reducible apply hnx; clear hnx nx)
    | (clear hnx nx; clear hnx nx; with_reducible apply hnx; clear hnx nx)
    | (clear hnx nx; clear hnx nx; clear hnx nx; with_reducible apply hnx; clear hnx nx))
        all_goals first | exact absurd trivial hc | contradiction | exact fun h => False.elim h | (exfalso; omega) | (exfalso; have hc := of_decide_eq_false hc; omega) | (exfalso; simp only [Bool.not_false, Bool.not_true, decide_eq_true_eq, decide_eq_false_iff_not] at *; omega) | skip
        refine hlp2 _ (xs.length - (i + 1)) ⟨fr 130 [(108, pn (i + 1)), (107, pint .i64 xs.length), (106, .row B 1 xs.length), (5, .row A 5 xs.length)], [(A, ⟨45, true, 5, flatL (upto xs (i + 1))⟩), (B, ⟨9, true, 1, secs xs⟩)]⟩ (by omega) ?_ ⟨i + 1, by omega, rfl, ?_, rfl⟩
        · refine Wk_fr (by simp only [wkb, Nat.reduceEqDiff, Nat.reduceLT, ↓reduceIte, pn]) ?_
          exact ⟨fun x hx => List.mem_cons_of_mem _ hx, by simp [names, hAB]⟩
        · intro x hx
          rw [List.take_add_one, List.getElem?_eq_getElem hil, List.mem_append] at hx
          rcases hx with hx | hx
          · exact hsome x hx
          · simp only [Option.toList_some, List.mem_singleton] at hx
            rw [hx, hfk]
            rfl
    · have hi2 : i = xs.length := by omega
      subst hi2
      have cv := valid_c G (basedF xs) (based_HA (by omega) hsm)
      rw [List.take_length] at hsome
      have hok := parseF_ok hs hrd hsome
      rw [upto_full] at hfl
      rw [upto_full]
      repeat' (first
    | (with_reducible apply W_seq_k; intro nx hnx)
    | (with_reducible first | apply W_block | apply W_scope)
    | (with_reducible refine W_prune 567907468902246771870523037057021 ?_; simp only [prb, Nat.reducePow, Nat.reduceDiv, Nat.reduceMod, Nat.reduceBEq]; with_reducible apply W_region_l)
    | ((first | (with_reducible apply WL_op; intro nx hnx) | with_reducible refine Ev_out ?_ | (with_reducible refine pfresh_k hnm fun nm hnm => ?_; (try simp only [fmb] at hnm)) | (with_reducible refine pborn_mu hnm fun nm hnm => ?_; (try simp only [fmb] at hnm)) | (with_reducible refine pmaybe_k ?_; intro bn hbn)); try (simp (maxSteps := 2000000) (disch := omega) only [evb, evd, pbuiltin, constPV, pnck, seqK, blockK, scopeK, pbin, pun, ppick, plen, piaddr, pindex, pfield, pslice, pbound, pconv, pelems, pextract, pmm, PV.mem?, PV.one, PV.cells, pageq, peqs, peq1, pmakes, pstore, pbytes, pmark, pusd, pust, psrc, pkey, pnile, pcap, pgrow, List.set, Value.cells, ↓popG_eq, ↓pop.eq_1, ↓List.getElem?_map, ↓List.getElem?_cons_zero, ↓List.getElem?_cons_succ, Value.oneCell', Nat.reduceAdd, Nat.reduceMul, Nat.reduceSub, Nat.reduceLeDiff, Nat.reduceEqDiff, ↓reduceIte, ne_eq, reduceCtorEq, forall_const, exists_and_left, exists_eq_left', eq_self, Nat.reduceLT, Int.reduceLT, Int.reduceLE, Int.reduceToNat, Int.reduceAdd, Int.reduceSub, Int.reduceNeg, hnm, Tryd.tf0, Tryd.tf1, Tryd.tf2, Tryd.tf3, Tryd.tf4, Tryd.tf9, Tryd.tf23, Tryd.tf26, Tryd.tf36, Tryd.tf45, Tryd.teq45, Tryd.tf56, Tryd.tf59, Tryd.tf64, Tryd.teq94, Tryd.teq104, Tryd.teq113, Tryd.teq114, Tryd.call37, Tryd.call38, Tryd.call39, Tryd.call40, Tryd.call42, hAB, hfl]); repeat (refine And.intro (by omega) ?_))
    | ((with_reducible first | apply WL_nil | apply W_label | apply W_skip | apply W_exit | apply W_ret); try simp only [seqK, blockK, scopeK, ↓reduceIte, Nat.reduceEqDiff])
    | (with_reducible apply pguard_intro <;> (intro hc; (try simp only [hcb, reduceCtorEq, forall_const, ne_eq] at hc); first | (exfalso; omega) | (exfalso; exact hc trivial) | refine Ev_in ?_))
    | (with_reducible apply W_cond_k; intro _ _ ea eb; (simp only [condK, cob, opnd, constPV, Nat.reduceEqDiff, Nat.reduceLT, ↓reduceIte, hcb, reduceCtorEq, forall_const, ne_eq]); subst ea eb; first | (refine ⟨fun hc => ?_, fun hc => ?_⟩ <;> first | (exfalso; omega) | (exfalso; exact hc trivial) | skip) | skip)
    | (with_reducible apply hnx; clear hnx nx)
    | (with_reducible refine And.intro (by omega) ?_)
    | (with_reducible refine And.intro ?_ ?_)
    | ((refine pcall_lts (t := 45) (a := basedF xs) (by simp only [look, if_true]) (by rw [basedF_len]) cv ?_; refine Ev_in ?_))
    | (clear hnx nx; with_reducible apply hnx; clear hnx nx)
    | (clear hnx nx; clear hnx nx; with_reducible apply hnx; clear hnx nx)
    | (clear hnx nx; clear hnx nx; clear hnx nx; with_reducible apply hnx; clear hnx nx))
      all_goals first | exact absurd trivial hc | contradiction | exact fun h => False.elim h | (exfalso; omega) | (exfalso; have hc := of_decide_eq_false hc; omega) | (exfalso; simp only [Bool.not_false, Bool.not_true, decide_eq_true_eq, decide_eq_false_iff_not] at *; omega) | skip
      · rw [hc, if_neg (by simp)] at hok
        refine hfin _ _ (Fin_ret3 rfl rfl rfl (Sub_nil _) ?_); simp only [List.getD_cons_zero, List.getD_cons_succ, fr_getD_cons, fr_getD_nil, Nat.reduceEqDiff, Nat.reduceLT, ↓reduceIte]
        rw [hok]
        exact ⟨pnil, rfl, .inl ⟨rfl, rfl, by trivial⟩⟩
      · rw [hc, if_pos rfl] at hok
        refine hfin _ _ (Fin_ret3 rfl rfl rfl (H := [(A, ⟨45, true, 5, flatL (basedF xs)⟩)]) ⟨fun x hx => ?_, by simp [names]⟩ ?_)
        · simp only [List.mem_cons, List.not_mem_nil, or_false] at hx ⊢
          exact .inl hx
        · simp only [fr_getD_cons, Nat.reduceEqDiff, Nat.reduceLT, ↓reduceIte]
          rw [hok]
          exact ⟨.row A 5 xs.length, rfl, .inr ⟨A, by rw [basedF_len], rfl⟩⟩
  · have cc := cut_c G r 10 (by omega)
    have hst := splitF_step (c := 10) hr0
    have htl := cutF_le r 10
    obtain ⟨⟨t, r', e⟩, hcut⟩ : ∃ q, q = cutF r 10 := ⟨_, rfl⟩
    rw [← hcut] at cc hst htl
    simp only at cc hst htl
    have cs := split_c G t 32 (by omega)
    have hle := splitF_mem 32 t
    have hll : (flatL (xs.map Prod.fst)).length = xs.length * 5 := by rw [flatL_len, List.length_map]
    have hlx : (secs xs).length = xs.length := List.length_map ..
    have hsnoc2 : ∀ x : Ltr × List UInt8, secs (xs ++ [x]) = secs xs ++ [pstr x.2] := fun x => by simp [secs]
    have hsnoc1 : ∀ x : Ltr × List UInt8, flatL ((xs ++ [x]).map Prod.fst) = flatL (xs.map Prod.fst) ++ cellL x.1 := fun x => by
      rw [List.map_append]
      exact flatL_snoc _ _
    rcases hst with ⟨rfl, h1, h2, h3⟩ | ⟨rfl, h1⟩
    · by_cases h5 : (splitF 32 t).length = 5
      · obtain ⟨x, b, m, k, w, hsp⟩ := five h5
        have hln := lineF_five hsp
        rw [hsp] at cs hle
        have n1 := number_c G m (by have := hle m (by simp); omega)
        have n2 := number_c G k (by have := hle k (by simp); omega)
        have n3 := number_c G w (by have := hle w (by simp); omega)
        simp only [List.map_cons, List.map_nil] at cs
        repeat' (first
    | (with_reducible apply W_seq_k; intro nx hnx)
    | (with_reducible first | apply W_block | apply W_scope)
    | (with_reducible refine W_prune 567907468902246771870523037057021 ?_; simp only [prb, Nat.reducePow, Nat.reduceDiv, Nat.reduceMod, Nat.reduceBEq]; with_reducible apply W_region_l)
    | ((first | (with_reducible apply WL_op; intro nx hnx) | with_reducible refine Ev_out ?_ | (with_reducible refine pfresh_k hnm fun nm hnm => ?_; (try simp only [fmb] at hnm)) | (with_reducible refine pborn_mu hnm fun nm hnm => ?_; (try simp only [fmb] at hnm)) | (with_reducible refine pmaybe_k ?_; intro bn hbn)); try (simp (maxSteps := 2000000) (disch := omega) only [evb, evd, pbuiltin, constPV, pnck, seqK, blockK, scopeK, pbin, pun, ppick, plen, piaddr, pindex, pfield, pslice, pbound, pconv, pelems, pextract, pmm, PV.mem?, PV.one, PV.cells, pageq, peqs, peq1, pmakes, pstore, pbytes, pmark, pusd, pust, psrc, pkey, pnile, pcap, pgrow, List.set, Value.cells, ↓popG_eq, ↓pop.eq_1, ↓List.getElem?_map, ↓List.getElem?_cons_zero, ↓List.getElem?_cons_succ, Value.oneCell', Nat.reduceAdd, Nat.reduceMul, Nat.reduceSub, Nat.reduceLeDiff, Nat.reduceEqDiff, ↓reduceIte, ne_eq, reduceCtorEq, forall_const, exists_and_left, exists_eq_left', eq_self, Nat.reduceLT, Int.reduceLT, Int.reduceLE, Int.reduceToNat, Int.reduceAdd, Int.reduceSub, Int.reduceNeg, hnm, Tryd.tf0, Tryd.tf1, Tryd.tf2, Tryd.tf3, Tryd.tf4, Tryd.tf9, Tryd.tf23, Tryd.tf26, Tryd.tf36, Tryd.tf45, Tryd.teq45, Tryd.tf56, Tryd.tf59, Tryd.tf64, Tryd.teq94, Tryd.teq104, Tryd.teq113, Tryd.teq114, Tryd.call37, Tryd.call38, Tryd.call39, Tryd.call40, Tryd.call42, hAB, hr0, List.length_map, hll, hlx]); repeat (refine And.intro (by omega) ?_))
    | ((with_reducible first | apply WL_nil | apply W_label | apply W_skip | apply W_exit | apply W_ret); try simp only [seqK, blockK, scopeK, ↓reduceIte, Nat.reduceEqDiff])
    | (with_reducible apply pguard_intro <;> (intro hc; (try simp only [hcb, reduceCtorEq, forall_const, ne_eq] at hc); first | (exfalso; omega) | (exfalso; exact hc trivial) | refine Ev_in ?_))
    | (with_reducible apply W_cond_k; intro _ _ ea eb; (simp only [condK, cob, opnd, constPV, Nat.reduceEqDiff, Nat.reduceLT, ↓reduceIte, hcb, reduceCtorEq, forall_const, ne_eq]); subst ea eb; first | (refine ⟨fun hc => ?_, fun hc => ?_⟩ <;> first | (exfalso; omega) | (exfalso; exact hc trivial) | skip) | skip)
    | (with_reducible apply hnx; clear hnx nx)
    | (with_reducible refine And.intro (by omega) ?_)
    | (with_reducible refine And.intro ?_ ?_)
    | (with_reducible refine pcall_k (cc) ?_; rintro _ _ ⟨rfl, rfl⟩ -; refine Ev_in ?_)
    | (with_reducible refine pcall_k (cs) ?_; rintro _ _ ⟨rfl, rfl⟩ -; refine Ev_in ?_)
    | (with_reducible refine pcall_k (n1) ?_; rintro _ _ ⟨rfl, rfl⟩ -; refine Ev_in ?_)
    | (with_reducible refine pcall_k (n2) ?_; rintro _ _ ⟨rfl, rfl⟩ -; refine Ev_in ?_)
    | (with_reducible refine pcall_k (n3) ?_; rintro _ _ ⟨rfl, rfl⟩ -; refine Ev_in ?_)
    | (clear hnx nx; with_reducible apply hnx; clear hnx nx)
    | (clear hnx nx; clear hnx nx; with_reducible apply hnx; clear hnx nx)
    | (clear hnx nx; clear hnx nx; clear hnx nx; with_reducible apply hnx; clear hnx nx))
        all_goals first | exact absurd trivial hc | contradiction | exact fun h => False.elim h | (exfalso; omega) | (exfalso; have hc := of_decide_eq_false hc; omega) | (exfalso; simp only [Bool.not_false, Bool.not_true, decide_eq_true_eq, decide_eq_false_iff_not] at *; omega) | skip
        all_goals first
          | (have hn : lineF t = none := by
               rw [hln]
               simp_all
             rw [h1, readL_none splitF_ne hn, List.append_nil] at hrd
             refine hfin _ _ (Fin_ret3 rfl rfl rfl (Sub_nil _) ?_); simp only [List.getD_cons_zero, List.getD_cons_succ, fr_getD_cons, fr_getD_nil, Nat.reduceEqDiff, Nat.reduceLT, ↓reduceIte]
             rw [parseF_bad hs hrd]
             exact ⟨pnil, rfl, .inl ⟨rfl, rfl, by trivial⟩⟩)
          | skip
        have hn : lineF t = some (⟨x, 0, (numF m).1, (numF k).1, (numF w).1⟩, b) := by
          rw [hln]
          simp_all
        rename_i N0 g0 N1 g1 N2 g2
        rw [h1, readL_some splitF_ne hn, List.append_cons] at hrd
        refine hlp _ r'.length (parS s r' (xs ++ [(⟨x, 0, (numF m).1, (numF k).1, (numF w).1⟩, b)]) N1 nm) (by omega) ?_ ⟨r', _, N1, nm, by simp [hnm], rfl, by simp; omega, hrd, ?_, rfl⟩
        · rw [parS, hsnoc1, hsnoc2]
          refine Wk_fr (by simp only [wkb, Nat.reduceEqDiff, Nat.reduceLT, ↓reduceIte, pn, List.length_append, List.length_singleton]) ?_
          refine ⟨fun x hx => ?_, by simp [names, hnm]⟩
          simp only [List.mem_cons, List.not_mem_nil, or_false] at hx ⊢
          rcases hx with rfl | rfl
          · exact .inl rfl
          · exact .inr (.inr (.inl rfl))
        · intro y hy
          rw [List.mem_append, List.mem_singleton] at hy
          rcases hy with hy | rfl
          · exact hsm y hy
          · have := hle x (by simp)
            exact ⟨by simp only; omega, numF_bd m, numF_bd k, numF_bd w⟩
      · have hln := lineF_not h5
        rw [h1, readL_none splitF_ne hln, List.append_nil] at hrd
        repeat' (first
    | (with_reducible apply W_seq_k; intro nx hnx)
    | (with_reducible first | apply W_block | apply W_scope)
    | (with_reducible refine W_prune 567907468902246771870523037057021 ?_; simp only [prb, Nat.reducePow, Nat.reduceDiv, Nat.reduceMod, Nat.reduceBEq]; with_reducible apply W_region_l)
    | ((first | (with_reducible apply WL_op; intro nx hnx) | with_reducible refine Ev_out ?_ | (with_reducible refine pfresh_k hnm fun nm hnm => ?_; (try simp only [fmb] at hnm)) | (with_reducible refine pborn_mu hnm fun nm hnm => ?_; (try simp only [fmb] at hnm)) | (with_reducible refine pmaybe_k ?_; intro bn hbn)); try (simp (maxSteps := 2000000) (disch := omega) only [evb, evd, pbuiltin, constPV, pnck, seqK, blockK, scopeK, pbin, pun, ppick, plen, piaddr, pindex, pfield, pslice, pbound, pconv, pelems, pextract, pmm, PV.mem?, PV.one, PV.cells, pageq, peqs, peq1, pmakes, pstore, pbytes, pmark, pusd, pust, psrc, pkey, pnile, pcap, pgrow, List.set, Value.cells, ↓popG_eq, ↓pop.eq_1, ↓List.getElem?_map, ↓List.getElem?_cons_zero, ↓List.getElem?_cons_succ, Value.oneCell', Nat.reduceAdd, Nat.reduceMul, Nat.reduceSub, Nat.reduceLeDiff, Nat.reduceEqDiff, ↓reduceIte, ne_eq, reduceCtorEq, forall_const, exists_and_left, exists_eq_left', eq_self, Nat.reduceLT, Int.reduceLT, Int.reduceLE, Int.reduceToNat, Int.reduceAdd, Int.reduceSub, Int.reduceNeg, hnm, Tryd.tf0, Tryd.tf1, Tryd.tf2, Tryd.tf3, Tryd.tf4, Tryd.tf9, Tryd.tf23, Tryd.tf26, Tryd.tf36, Tryd.tf45, Tryd.teq45, Tryd.tf56, Tryd.tf59, Tryd.tf64, Tryd.teq94, Tryd.teq104, Tryd.teq113, Tryd.teq114, Tryd.call37, Tryd.call38, Tryd.call39, Tryd.call40, Tryd.call42, hAB, hr0, List.length_map]); repeat (refine And.intro (by omega) ?_))
    | ((with_reducible first | apply WL_nil | apply W_label | apply W_skip | apply W_exit | apply W_ret); try simp only [seqK, blockK, scopeK, ↓reduceIte, Nat.reduceEqDiff])
    | (with_reducible apply pguard_intro <;> (intro hc; (try simp only [hcb, reduceCtorEq, forall_const, ne_eq] at hc); first | (exfalso; omega) | (exfalso; exact hc trivial) | refine Ev_in ?_))
    | (with_reducible apply W_cond_k; intro _ _ ea eb; (simp only [condK, cob, opnd, constPV, Nat.reduceEqDiff, Nat.reduceLT, ↓reduceIte, hcb, reduceCtorEq, forall_const, ne_eq]); subst ea eb; first | (refine ⟨fun hc => ?_, fun hc => ?_⟩ <;> first | (exfalso; omega) | (exfalso; exact hc trivial) | skip) | skip)
    | (with_reducible apply hnx; clear hnx nx)
    | (with_reducible refine And.intro (by omega) ?_)
    | (with_reducible refine And.intro ?_ ?_)
    | (with_reducible refine pcall_k (cc) ?_; rintro _ _ ⟨rfl, rfl⟩ -; refine Ev_in ?_)
    | (with_reducible refine pcall_k (cs) ?_; rintro _ _ ⟨rfl, rfl⟩ -; refine Ev_in ?_)
    | (clear hnx nx; with_reducible apply hnx; clear hnx nx)
    | (clear hnx nx; clear hnx nx; with_reducible apply hnx; clear hnx nx)
    | (clear hnx nx; clear hnx nx; clear hnx nx; with_reducible apply hnx; clear hnx nx))
        all_goals first | exact absurd trivial hc | contradiction | exact fun h => False.elim h | (exfalso; omega) | (exfalso; have hc := of_decide_eq_false hc; omega) | (exfalso; simp only [Bool.not_false, Bool.not_true, decide_eq_true_eq, decide_eq_false_iff_not] at *; omega) | skip
        all_goals
          refine hfin _ _ (Fin_ret3 rfl rfl rfl (Sub_nil _) ?_); simp only [List.getD_cons_zero, List.getD_cons_succ, fr_getD_cons, fr_getD_nil, Nat.reduceEqDiff, Nat.reduceLT, ↓reduceIte]
          rw [parseF_bad hs hrd]
          exact ⟨pnil, rfl, .inl ⟨rfl, rfl, by trivial⟩⟩
    · have : (readL [r]) = ([], false) := by simp [readL, hr0]
      rw [h1, this, List.append_nil] at hrd
      repeat' (first
    | (with_reducible apply W_seq_k; intro nx hnx)
    | (with_reducible first | apply W_block | apply W_scope)
    | (with_reducible refine W_prune 567907468902246771870523037057021 ?_; simp only [prb, Nat.reducePow, Nat.reduceDiv, Nat.reduceMod, Nat.reduceBEq]; with_reducible apply W_region_l)
    | ((first | (with_reducible apply WL_op; intro nx hnx) | with_reducible refine Ev_out ?_ | (with_reducible refine pfresh_k hnm fun nm hnm => ?_; (try simp only [fmb] at hnm)) | (with_reducible refine pborn_mu hnm fun nm hnm => ?_; (try simp only [fmb] at hnm)) | (with_reducible refine pmaybe_k ?_; intro bn hbn)); try (simp (maxSteps := 2000000) (disch := omega) only [evb, evd, pbuiltin, constPV, pnck, seqK, blockK, scopeK, pbin, pun, ppick, plen, piaddr, pindex, pfield, pslice, pbound, pconv, pelems, pextract, pmm, PV.mem?, PV.one, PV.cells, pageq, peqs, peq1, pmakes, pstore, pbytes, pmark, pusd, pust, psrc, pkey, pnile, pcap, pgrow, List.set, Value.cells, ↓popG_eq, ↓pop.eq_1, ↓List.getElem?_map, ↓List.getElem?_cons_zero, ↓List.getElem?_cons_succ, Value.oneCell', Nat.reduceAdd, Nat.reduceMul, Nat.reduceSub, Nat.reduceLeDiff, Nat.reduceEqDiff, ↓reduceIte, ne_eq, reduceCtorEq, forall_const, exists_and_left, exists_eq_left', eq_self, Nat.reduceLT, Int.reduceLT, Int.reduceLE, Int.reduceToNat, Int.reduceAdd, Int.reduceSub, Int.reduceNeg, hnm, Tryd.tf0, Tryd.tf1, Tryd.tf2, Tryd.tf3, Tryd.tf4, Tryd.tf9, Tryd.tf23, Tryd.tf26, Tryd.tf36, Tryd.tf45, Tryd.teq45, Tryd.tf56, Tryd.tf59, Tryd.tf64, Tryd.teq94, Tryd.teq104, Tryd.teq113, Tryd.teq114, Tryd.call37, Tryd.call38, Tryd.call39, Tryd.call40, Tryd.call42, hAB, hr0, List.length_map]); repeat (refine And.intro (by omega) ?_))
    | ((with_reducible first | apply WL_nil | apply W_label | apply W_skip | apply W_exit | apply W_ret); try simp only [seqK, blockK, scopeK, ↓reduceIte, Nat.reduceEqDiff])
    | (with_reducible apply pguard_intro <;> (intro hc; (try simp only [hcb, reduceCtorEq, forall_const, ne_eq] at hc); first | (exfalso; omega) | (exfalso; exact hc trivial) | refine Ev_in ?_))
    | (with_reducible apply W_cond_k; intro _ _ ea eb; (simp only [condK, cob, opnd, constPV, Nat.reduceEqDiff, Nat.reduceLT, ↓reduceIte, hcb, reduceCtorEq, forall_const, ne_eq]); subst ea eb; first | (refine ⟨fun hc => ?_, fun hc => ?_⟩ <;> first | (exfalso; omega) | (exfalso; exact hc trivial) | skip) | skip)
    | (with_reducible apply hnx; clear hnx nx)
    | (with_reducible refine And.intro (by omega) ?_)
    | (with_reducible refine And.intro ?_ ?_)
    | (with_reducible refine pcall_k (cc) ?_; rintro _ _ ⟨rfl, rfl⟩ -; refine Ev_in ?_)
    | (with_reducible refine pcall_k (cs) ?_; rintro _ _ ⟨rfl, rfl⟩ -; refine Ev_in ?_)
    | (clear hnx nx; with_reducible apply hnx; clear hnx nx)
    | (clear hnx nx; clear hnx nx; with_reducible apply hnx; clear hnx nx)
    | (clear hnx nx; clear hnx nx; clear hnx nx; with_reducible apply hnx; clear hnx nx))
      all_goals first | exact absurd trivial hc | contradiction | exact fun h => False.elim h | (exfalso; omega) | (exfalso; have hc := of_decide_eq_false hc; omega) | (exfalso; simp only [Bool.not_false, Bool.not_true, decide_eq_true_eq, decide_eq_false_iff_not] at *; omega) | skip
      all_goals
        refine hfin _ _ (Fin_ret3 rfl rfl rfl (Sub_nil _) ?_); simp only [List.getD_cons_zero, List.getD_cons_succ, fr_getD_cons, fr_getD_nil, Nat.reduceEqDiff, Nat.reduceLT, ↓reduceIte]
        rw [parseF_bad hs hrd]
        exact ⟨pnil, rfl, .inl ⟨rfl, rfl, by trivial⟩⟩
theorem Px.nil3 {G : Globs} (es : Nat) (q r : PV) (H : Heap) : Px G (.tuple [pnil, q, r]) H (.tuple [.list es [], q, r]) H := fun _ _ A _ w v hs hr => by
  refine ⟨A, hs, ?_⟩
  cases hr with
  | tuple cs f h2 =>
    refine .tuple [.list es [], q, r] f fun j u hu => ?_
    match j with
    | 0 =>
      cases hu
      exact nil_list es (h2 0 pnil rfl)
    | j + 1 => exact h2 (j + 1) u hu
/-- A result of three parts, the first of which is letters in a row. -/
theorem CRL.frz3 {G : Globs} {f : FuncId} {args : List PV} {b : List Ltr} {j k : Int} (h : PCalls Tryd.prog G f args [] (fun res H => ∃ o, res = .tuple [o, pint .i64 j, pint .i64 k] ∧ CRL b o H)) : PCalls Tryd.prog G f args [] (fun res H => res = .tuple [ltsP b, pint .i64 j, pint .i64 k] ∧ H = []) := by
  refine h.px fun res H hR => ?_
  obtain ⟨o, rfl, hR⟩ := hR
  rcases hR with ⟨rfl, rfl, rfl⟩ | ⟨N, rfl, rfl⟩
  · exact ⟨_, _, Px.nil3 5 _ _ _, rfl, rfl⟩
  · have h2 := Px.freeze (G := G) (.tuple [.row N 5 b.length, pint .i64 j, pint .i64 k]) [(N, ⟨45, true, 5, flatL b⟩)] N (o := ⟨45, true, 5, flatL b⟩) (by simp only [look, if_true]) (by simp [frzOk, del])
    refine ⟨_, _, h2, ?_, by simp [frzH, del]⟩
    have := frz_lts N b
    simp only [PM.frz] at this
    simp only [PM.frz, List.map_cons, List.map_nil, this]
    simp only [frz1]
theorem parse_f (G : Globs) (s : List UInt8) : PCalls Tryd.prog G 19 [pstr s] [] (fun res H => res = .tuple [ltsP (parseF s).1, pint .i64 (parseF s).2.1, pint .i64 (parseF s).2.2] ∧ H = []) := CRL.frz3 (parse_c G s)
end Go.PM

namespace Go.PM
open Go.Proofs
attribute [local irreducible] W PCalls pcall pcallI WL
set_option maxRecDepth 100000
set_option maxHeartbeats 8000000
def exA : List Ltr := [⟨[99], 0, 0, 0, 5⟩, ⟨[104], 1, 0, 0, 6⟩, ⟨[99, 104], 2, 0, 0, 9⟩]
theorem ex_HA : HA exA := ⟨by decide, by decide⟩
theorem ex_r1 : readF exA [99, 104, 99] = ([2, 0], -1) := by decide +kernel
theorem ex_r2 : readF exA [99, 104, 45, 99] = ([2], 2) := by decide +kernel
theorem ex_w : writeF exA [0, 1] = ([99, 104], 0) := by decide +kernel
theorem ex_s1 : safeF exA [0, 1] = false := by decide +kernel
theorem ex_s2 : safeF exA [2] = true := by decide +kernel
theorem ex_p : parseF [97, 32, 97, 32, 48, 32, 48, 32, 53, 10, 65, 32, 97, 32, 48, 32, 49, 32, 54, 10] = ([⟨[97], 0, 0, 0, 5⟩, ⟨[65], 0, 0, 1, 6⟩], 0, 0) := by decide +kernel
theorem lives_c (G : Globs) : PCalls Tryd.prog G 15 [] [] (fun res H => res = pbool true ∧ H = []) := by
  have c1 := read_f G exA [99, 104, 99] ex_HA (by decide)
  have c2 := read_f G exA [99, 104, 45, 99] ex_HA (by decide)
  have c3 := write_c G exA [0, 1] ex_HA (by decide)
  have c4 := parse_f G [97, 32, 97, 32, 48, 32, 48, 32, 53, 10, 65, 32, 97, 32, 48, 32, 49, 32, 54, 10]
  have c5 := sameInts_c G [2, 0] [2, 0] (by decide)
  have c6 := sameInts_c G [2] [2] (by decide)
  have c7 := safe_c G exA [0, 1] ex_HA (by decide)
  have c8 := safe_c G exA [2] ex_HA (by decide)
  rw [ex_r1] at c1
  rw [ex_r2] at c2
  rw [ex_w] at c3
  rw [ex_p] at c4
  rw [ex_s1] at c7
  rw [ex_s2] at c8
  have c1 : PCalls Tryd.prog G 12 [.list 5 [.agg [.val (.string ⟨#[99]⟩), .val (.int .i64 0), .val (.int .i64 0), .val (.int .i64 0), .val (.int .i64 5)], .agg [.val (.string ⟨#[104]⟩), .val (.int .i64 1), .val (.int .i64 0), .val (.int .i64 0), .val (.int .i64 6)], .agg [.val (.string ⟨#[99, 104]⟩), .val (.int .i64 2), .val (.int .i64 0), .val (.int .i64 0), .val (.int .i64 9)]], .val (.string ⟨#[99, 104, 99]⟩)] [] _ := c1
  have c2 : PCalls Tryd.prog G 12 [.list 5 [.agg [.val (.string ⟨#[99]⟩), .val (.int .i64 0), .val (.int .i64 0), .val (.int .i64 0), .val (.int .i64 5)], .agg [.val (.string ⟨#[104]⟩), .val (.int .i64 1), .val (.int .i64 0), .val (.int .i64 0), .val (.int .i64 6)], .agg [.val (.string ⟨#[99, 104]⟩), .val (.int .i64 2), .val (.int .i64 0), .val (.int .i64 0), .val (.int .i64 9)]], .val (.string ⟨#[99, 104, 45, 99]⟩)] [] _ := c2
  have c3 : PCalls Tryd.prog G 22 [.list 5 [.agg [.val (.string ⟨#[99]⟩), .val (.int .i64 0), .val (.int .i64 0), .val (.int .i64 0), .val (.int .i64 5)], .agg [.val (.string ⟨#[104]⟩), .val (.int .i64 1), .val (.int .i64 0), .val (.int .i64 0), .val (.int .i64 6)], .agg [.val (.string ⟨#[99, 104]⟩), .val (.int .i64 2), .val (.int .i64 0), .val (.int .i64 0), .val (.int .i64 9)]], .list 1 [.val (.int .i64 0), .val (.int .i64 1)]] [] _ := c3
  have c4 : PCalls Tryd.prog G 19 [.val (.string ⟨#[97, 32, 97, 32, 48, 32, 48, 32, 53, 10, 65, 32, 97, 32, 48, 32, 49, 32, 54, 10]⟩)] [] _ := c4
  have c7 : PCalls Tryd.prog G 25 [.list 5 [.agg [.val (.string ⟨#[99]⟩), .val (.int .i64 0), .val (.int .i64 0), .val (.int .i64 0), .val (.int .i64 5)], .agg [.val (.string ⟨#[104]⟩), .val (.int .i64 1), .val (.int .i64 0), .val (.int .i64 0), .val (.int .i64 6)], .agg [.val (.string ⟨#[99, 104]⟩), .val (.int .i64 2), .val (.int .i64 0), .val (.int .i64 0), .val (.int .i64 9)]], .list 1 [.val (.int .i64 0), .val (.int .i64 1)]] [] _ := c7
  have c8 : PCalls Tryd.prog G 25 [.list 5 [.agg [.val (.string ⟨#[99]⟩), .val (.int .i64 0), .val (.int .i64 0), .val (.int .i64 0), .val (.int .i64 5)], .agg [.val (.string ⟨#[104]⟩), .val (.int .i64 1), .val (.int .i64 0), .val (.int .i64 0), .val (.int .i64 6)], .agg [.val (.string ⟨#[99, 104]⟩), .val (.int .i64 2), .val (.int .i64 0), .val (.int .i64 0), .val (.int .i64 9)]], .list 1 [.val (.int .i64 2)]] [] _ := c8
  have c5 : PCalls Tryd.prog G 14 [wP [2, 0], .list 1 [.val (.int .i64 2), .val (.int .i64 0)]] [] _ := c5
  have c6 : PCalls Tryd.prog G 14 [wP [2], .list 1 [.val (.int .i64 2)]] [] _ := c6
  (refine PCalls_f Tryd.func15 rfl Tryd.ntmps15 Tryd.results15 (by simp) fun fin hfin => ?_; have hnm : True := trivial; simp (maxSteps := 2000000) (disch := omega) only [evb, evd, pbuiltin, constPV, pnck, seqK, blockK, scopeK, pbin, pun, ppick, plen, piaddr, pindex, pfield, pslice, pbound, pconv, pelems, pextract, pmm, PV.mem?, PV.one, PV.cells, pageq, peqs, peq1, pmakes, pstore, pbytes, pmark, pusd, pust, psrc, pkey, pnile, pcap, pgrow, List.set, Value.cells, ↓popG_eq, ↓pop.eq_1, ↓List.getElem?_map, ↓List.getElem?_cons_zero, ↓List.getElem?_cons_succ, Value.oneCell', Nat.reduceAdd, Nat.reduceMul, Nat.reduceSub, Nat.reduceLeDiff, Nat.reduceEqDiff, ↓reduceIte, ne_eq, reduceCtorEq, forall_const, exists_and_left, exists_eq_left', eq_self, Nat.reduceLT, Int.reduceLT, Int.reduceLE, Int.reduceToNat, Int.reduceAdd, Int.reduceSub, Int.reduceNeg, hnm, Tryd.tf0, Tryd.tf1, Tryd.tf2, Tryd.tf3, Tryd.tf4, Tryd.tf9, Tryd.tf22, Tryd.tf23, Tryd.tf28, Tryd.tf36, Tryd.tf37, Tryd.tf42, Tryd.tf45, Tryd.teq45, Tryd.teq94, Tryd.teq104, Tryd.teq113, Tryd.teq114, Tryd.call12, Tryd.call14, Tryd.call19, Tryd.call22, Tryd.call25])
  repeat' (first
    | (with_reducible apply W_seq_k; intro nx hnx)
    | (with_reducible first | apply W_block | apply W_scope)
    | (with_reducible refine W_prune 2047 ?_; simp only [prb, Nat.reducePow, Nat.reduceDiv, Nat.reduceMod, Nat.reduceBEq]; with_reducible apply W_region_l)
    | (with_reducible refine WL_born (by simp) rfl (by simp) ?_; simp only [elemsOf, nl, List.map_cons, List.map_nil, Nat.reduceEqDiff, ↓reduceIte, List.take_succ_cons, List.take_zero, List.range_succ, List.range_zero, List.nil_append, List.cons_append, List.map_append, List.drop_succ_cons, List.drop_zero, Nat.reduceMul, Nat.zero_mul, Nat.one_mul, Nat.reduceAdd])
    | (with_reducible refine WL_bornH (by simp) (by simp) ?_ ?_ ?_; (· simp [frz, frz1, hnm]); (· simp [frz1, hnm, PV.one, Value.oneCell']); simp only [elemsOf, nl, List.map_cons, List.map_nil, Nat.reduceEqDiff, ↓reduceIte, List.take_succ_cons, List.take_zero, List.range_succ, List.range_zero, List.nil_append, List.cons_append, List.map_append, List.drop_succ_cons, List.drop_zero, Nat.reduceMul, Nat.zero_mul, Nat.one_mul, Nat.reduceAdd])
    | ((first | (with_reducible apply WL_op; intro nx hnx) | with_reducible refine Ev_out ?_ | (with_reducible refine pfresh_k hnm fun nm hnm => ?_; (try simp only [fmb] at hnm)) | (with_reducible refine pborn_im ?_; simp only [elemsOf, nl, List.map_cons, List.map_nil, Nat.reduceEqDiff, ↓reduceIte, List.take_succ_cons, List.take_zero, List.range_succ, List.range_zero, List.nil_append, List.cons_append, List.map_append, List.drop_succ_cons, List.drop_zero, Nat.reduceMul, Nat.zero_mul, Nat.one_mul, Nat.reduceAdd])); try (simp (maxSteps := 2000000) (disch := omega) only [evb, evd, pbuiltin, constPV, pnck, seqK, blockK, scopeK, pbin, pun, ppick, plen, piaddr, pindex, pfield, pslice, pbound, pconv, pelems, pextract, pmm, PV.mem?, PV.one, PV.cells, pageq, peqs, peq1, pmakes, pstore, pbytes, pmark, pusd, pust, psrc, pkey, pnile, pcap, pgrow, List.set, Value.cells, ↓popG_eq, ↓pop.eq_1, ↓List.getElem?_map, ↓List.getElem?_cons_zero, ↓List.getElem?_cons_succ, Value.oneCell', Nat.reduceAdd, Nat.reduceMul, Nat.reduceSub, Nat.reduceLeDiff, Nat.reduceEqDiff, ↓reduceIte, ne_eq, reduceCtorEq, forall_const, exists_and_left, exists_eq_left', eq_self, Nat.reduceLT, Int.reduceLT, Int.reduceLE, Int.reduceToNat, Int.reduceAdd, Int.reduceSub, Int.reduceNeg, hnm, Tryd.tf0, Tryd.tf1, Tryd.tf2, Tryd.tf3, Tryd.tf4, Tryd.tf9, Tryd.tf22, Tryd.tf23, Tryd.tf28, Tryd.tf36, Tryd.tf37, Tryd.tf42, Tryd.tf45, Tryd.teq45, Tryd.teq94, Tryd.teq104, Tryd.teq113, Tryd.teq114, Tryd.call12, Tryd.call14, Tryd.call19, Tryd.call22, Tryd.call25]); repeat (refine And.intro (by omega) ?_))
    | ((with_reducible first | apply WL_nil | apply W_label | apply W_skip | apply W_exit | apply W_ret); try simp only [seqK, blockK, scopeK, ↓reduceIte, Nat.reduceEqDiff])
    | (with_reducible apply pguard_intro <;> (intro hc; (try simp only [hcb, reduceCtorEq, forall_const, ne_eq] at hc); first | (exfalso; omega) | (exfalso; exact hc trivial) | refine Ev_in ?_))
    | (with_reducible apply W_cond_k; intro _ _ ea eb; (simp only [condK, cob, opnd, constPV, Nat.reduceEqDiff, Nat.reduceLT, ↓reduceIte, hcb, reduceCtorEq, forall_const, ne_eq]); subst ea eb; first | (refine ⟨fun hc => ?_, fun hc => ?_⟩ <;> first | (exfalso; omega) | (exfalso; exact hc trivial) | skip) | skip)
    | (with_reducible apply hnx; clear hnx nx)
    | (with_reducible refine And.intro (by omega) ?_)
    | (with_reducible refine And.intro ?_ ?_)
    | (with_reducible refine pcall_k (c1) ?_; rintro _ _ ⟨rfl, rfl⟩ -; refine Ev_in ?_)
    | (with_reducible refine pcall_k (c2) ?_; rintro _ _ ⟨rfl, rfl⟩ -; refine Ev_in ?_)
    | (with_reducible refine pcall_k (c3) ?_; rintro _ _ ⟨rfl, rfl⟩ -; refine Ev_in ?_)
    | (with_reducible refine pcall_k (c4) ?_; rintro _ _ ⟨rfl, rfl⟩ -; refine Ev_in ?_)
    | (with_reducible refine pcall_k (c5) ?_; rintro _ _ ⟨rfl, rfl⟩ -; refine Ev_in ?_)
    | (with_reducible refine pcall_k (c6) ?_; rintro _ _ ⟨rfl, rfl⟩ -; refine Ev_in ?_)
    | (with_reducible refine pcall_k (c7) ?_; rintro _ _ ⟨rfl, rfl⟩ -; refine Ev_in ?_)
    | (with_reducible refine pcall_k (c8) ?_; rintro _ _ ⟨rfl, rfl⟩ -; refine Ev_in ?_)
    | (clear hnx nx; with_reducible apply hnx; clear hnx nx)
    | (clear hnx nx; clear hnx nx; with_reducible apply hnx; clear hnx nx)
    | (clear hnx nx; clear hnx nx; clear hnx nx; with_reducible apply hnx; clear hnx nx))
  all_goals first | exact absurd trivial hc | contradiction | exact fun h => False.elim h | (exfalso; omega) | (exfalso; have hc := of_decide_eq_false hc; omega) | (exfalso; simp only [Bool.not_false, Bool.not_true, decide_eq_true_eq, decide_eq_false_iff_not] at *; omega) | skip
  all_goals
    refine hfin _ _ (Fin_ret1 rfl (Sub_nil _) ?_); simp only [List.getD_cons_zero, List.getD_cons_succ, fr_getD_cons, fr_getD_nil, Nat.reduceEqDiff, Nat.reduceLT, ↓reduceIte]
    exact ⟨rfl, by trivial⟩
end Go.PM

namespace Go.PM
open Go.Proofs
attribute [local irreducible] W PCalls pcall pcallI WL
set_option maxRecDepth 100000
set_option maxHeartbeats 8000000
/-- The pieces that are no letters. -/
def oddL : List (List UInt8) := [[32], [45], [49], [122], [115, 115], [99], [195], [10]]
def pieceF (a : List Ltr) (x : Int) : List UInt8 :=
  if arF x (a.length + 14) < a.length then (a.getD (arF x (a.length + 14)).toNat default).text
  else if arF x (a.length + 14) < a.length + 2 then oddL.getD (arF (x.tdiv 64) 8).toNat []
  else (a.getD ((arF x (a.length + 14) - a.length - 2) % a.length).toNat default).text
def textM (a : List Ltr) (l : List Int) : List UInt8 := (l.take 40).flatMap (pieceF a)
theorem piece_len {a : List Ltr} (ht : ∀ x ∈ a, x.text.length ≤ 4) (x : Int) : (pieceF a x).length ≤ 4 := by
  have hd : ∀ i, (a.getD i default).text.length ≤ 4 := by
    intro i
    by_cases hi : i < a.length
    · rw [List.getD_eq_getElem?_getD, List.getElem?_eq_getElem hi]
      exact ht _ (List.getElem_mem hi)
    · rw [List.getD_eq_getElem?_getD, List.getElem?_eq_none (by omega)]
      decide
  have ho : ∀ i, (oddL.getD i []).length ≤ 4 := by
    intro i
    have h : ∀ x ∈ oddL, x.length ≤ 4 := by decide
    by_cases hi : i < oddL.length
    · rw [List.getD_eq_getElem?_getD, List.getElem?_eq_getElem hi]
      exact h _ (List.getElem_mem hi)
    · rw [List.getD_eq_getElem?_getD, List.getElem?_eq_none (by omega)]
      simp
  unfold pieceF
  split
  · exact hd _
  split
  · exact ho _
  · exact hd _
theorem textM_len {a : List Ltr} (ht : ∀ x ∈ a, x.text.length ≤ 4) (l : List Int) : ((l.flatMap (pieceF a))).length ≤ 4 * l.length := by
  induction l with
  | nil => simp
  | cons x r ih =>
    have := piece_len ht x
    rw [List.flatMap_cons, List.length_append, List.length_cons]
    omega
theorem tdiv64 (b : Int) (h : i64 b) : i64 (b.tdiv 64) := by
  unfold i64 at h ⊢
  by_cases h0 : 0 ≤ b
  · rw [Int.tdiv_eq_ediv_of_nonneg h0]
    omega
  · obtain ⟨c, rfl⟩ : ∃ c, b = -c := ⟨-b, by omega⟩
    rw [Int.neg_tdiv, Int.tdiv_eq_ediv_of_nonneg (by omega)]
    omega
theorem textM_c (G : Globs) (a : List Ltr) (l : List Int) (ha : a.length ≤ 1000) (ha1 : 1 ≤ a.length) (ht : ∀ x ∈ a, x.text.length ≤ 4) (hl : okI l) : PCalls Tryd.prog G 10 [ltsP a, wP l] [] (fun res H => res = pstr (textM a l) ∧ H = []) := by
  have hl1 := hl.1
  (refine PCalls_f Tryd.func10 rfl Tryd.ntmps10 Tryd.results10 (by simp) fun fin hfin => ?_; have hnm : True := trivial; simp (maxSteps := 2000000) (disch := omega) only [evb, evd, pbuiltin, constPV, pnck, seqK, blockK, scopeK, pbin, pun, ppick, plen, piaddr, pindex, pfield, pslice, pbound, pconv, pelems, pextract, pmm, PV.mem?, PV.one, PV.cells, pageq, peqs, peq1, pmakes, pstore, pbytes, pmark, pusd, pust, psrc, pkey, pnile, pcap, pgrow, List.set, Value.cells, ↓popG_eq, ↓pop.eq_1, ↓List.getElem?_map, ↓List.getElem?_cons_zero, ↓List.getElem?_cons_succ, Value.oneCell', Nat.reduceAdd, Nat.reduceMul, Nat.reduceSub, Nat.reduceLeDiff, Nat.reduceEqDiff, ↓reduceIte, ne_eq, reduceCtorEq, forall_const, exists_and_left, exists_eq_left', eq_self, Nat.reduceLT, Int.reduceLT, Int.reduceLE, Int.reduceToNat, Int.reduceAdd, Int.reduceSub, Int.reduceNeg, hnm, Tryd.tf0, Tryd.tf3, Tryd.tf4, Tryd.tf8, Tryd.tf9, Tryd.tf22, Tryd.tf23, Tryd.tf26, Tryd.tf45, Tryd.teq45, Tryd.teq94, Tryd.teq104, Tryd.teq113, Tryd.teq114, Tryd.call32])
  repeat' (first
    | (with_reducible apply W_seq_k; intro nx hnx)
    | (with_reducible first | apply W_block | apply W_scope)
    | (with_reducible refine W_prune 243 ?_; simp only [prb, Nat.reducePow, Nat.reduceDiv, Nat.reduceMod, Nat.reduceBEq]; with_reducible apply W_region_l)
    | ((first | (with_reducible apply WL_op; intro nx hnx) | with_reducible refine Ev_out ?_ | (with_reducible refine pfresh_k hnm fun nm hnm => ?_; (try simp only [fmb] at hnm)) | (with_reducible refine pborn_mu hnm fun nm hnm => ?_; (try simp only [fmb] at hnm))); try (simp (maxSteps := 2000000) (disch := omega) only [evb, evd, pbuiltin, constPV, pnck, seqK, blockK, scopeK, pbin, pun, ppick, plen, piaddr, pindex, pfield, pslice, pbound, pconv, pelems, pextract, pmm, PV.mem?, PV.one, PV.cells, pageq, peqs, peq1, pmakes, pstore, pbytes, pmark, pusd, pust, psrc, pkey, pnile, pcap, pgrow, List.set, Value.cells, ↓popG_eq, ↓pop.eq_1, ↓List.getElem?_map, ↓List.getElem?_cons_zero, ↓List.getElem?_cons_succ, Value.oneCell', Nat.reduceAdd, Nat.reduceMul, Nat.reduceSub, Nat.reduceLeDiff, Nat.reduceEqDiff, ↓reduceIte, ne_eq, reduceCtorEq, forall_const, exists_and_left, exists_eq_left', eq_self, Nat.reduceLT, Int.reduceLT, Int.reduceLE, Int.reduceToNat, Int.reduceAdd, Int.reduceSub, Int.reduceNeg, hnm, Tryd.tf0, Tryd.tf3, Tryd.tf4, Tryd.tf8, Tryd.tf9, Tryd.tf22, Tryd.tf23, Tryd.tf26, Tryd.tf45, Tryd.teq45, Tryd.teq94, Tryd.teq104, Tryd.teq113, Tryd.teq114, Tryd.call32]); repeat (refine And.intro (by omega) ?_))
    | ((with_reducible first | apply WL_nil | apply W_label | apply W_skip | apply W_exit | apply W_ret); try simp only [seqK, blockK, scopeK, ↓reduceIte, Nat.reduceEqDiff])
    | (with_reducible apply pguard_intro <;> (intro hc; (try simp only [hcb, reduceCtorEq, forall_const, ne_eq] at hc); first | (exfalso; omega) | (exfalso; exact hc trivial) | refine Ev_in ?_))
    | (with_reducible apply W_cond_k; intro _ _ ea eb; (simp only [condK, cob, opnd, constPV, Nat.reduceEqDiff, Nat.reduceLT, ↓reduceIte, hcb, reduceCtorEq, forall_const, ne_eq]); subst ea eb; first | (refine ⟨fun hc => ?_, fun hc => ?_⟩ <;> first | (exfalso; omega) | (exfalso; exact hc trivial) | skip) | skip)
    | (with_reducible apply hnx; clear hnx nx)
    | (with_reducible refine And.intro (by omega) ?_)
    | (with_reducible refine And.intro ?_ ?_)
    | (clear hnx nx; with_reducible apply hnx; clear hnx nx)
    | (clear hnx nx; clear hnx nx; with_reducible apply hnx; clear hnx nx)
    | (clear hnx nx; clear hnx nx; clear hnx nx; with_reducible apply hnx; clear hnx nx))
  refine W_loop_k (fun z τ => ∃ (i : Nat), i ≤ l.length ∧ i ≤ 40 ∧ z = 40 - i ∧ τ = ⟨fr 62 [(6, pn i), (5, pstr ((l.take i).flatMap (pieceF a))), (1, wP l), (0, ltsP a)], []⟩) 40
    ⟨fr 62 [(6, pn 0), (5, .val (.string ⟨#[]⟩)), (1, wP l), (0, ltsP a)], []⟩ (by
    exact Wk_fr (by simp only [wkb, Nat.reduceEqDiff, Nat.reduceLT, ↓reduceIte, pn]) (Sub_nil _)) ⟨0, by omega, by omega, by omega, rfl⟩ ?_
  rintro z τ ⟨i, hi, hi40, rfl, rfl⟩ lp hlp
  by_cases hil : i < l.length ∧ i < 40
  · obtain ⟨hil, hil2⟩ := hil
    have hgw : l[i]? = some l[i] := List.getElem?_eq_getElem hil
    have hsn : (l.take (i + 1)).flatMap (pieceF a) = (l.take i).flatMap (pieceF a) ++ pieceF a l[i] := by rw [List.take_add_one, hgw, List.flatMap_append]; simp
    have hx := hl.2 _ (List.getElem_mem hil)
    have ⟨hx1, hx2⟩ := hx
    obtain ⟨bq1, bq2⟩ := tdiv64 _ hx
    have hlen := textM_len ht (l.take i)
    rw [List.length_take] at hlen
    have hpl := piece_len ht l[i]
    have cr := around_c G l[i] (a.length + 14) (by omega) hx (by omega)
    have br := arF_bound l[i] (most := a.length + 14) (by omega)
    have co := around_c G (l[i].tdiv 64) 8 (by omega) (tdiv64 _ hx) (by omega)
    have bo := arF_bound (l[i].tdiv 64) (most := 8) (by omega)
    have hpd : pieceF a l[i] = if arF l[i] (a.length + 14) < a.length then (a.getD (arF l[i] (a.length + 14)).toNat default).text
      else if arF l[i] (a.length + 14) < a.length + 2 then oddL.getD (arF (l[i].tdiv 64) 8).toNat []
      else (a.getD ((arF l[i] (a.length + 14) - a.length - 2) % a.length).toNat default).text := rfl
    rw [hpd] at hsn hpl
    generalize arF (l[i].tdiv 64) 8 = y at *
    generalize arF l[i] (a.length + 14) = x at *
    generalize (l.take i).flatMap (pieceF a) = u at *
    by_cases h1 : x < a.length
    · have hj : x.toNat < a.length := by omega
      have hgx : a[x.toNat]? = some a[x.toNat] := List.getElem?_eq_getElem hj
      rw [if_pos h1, List.getD_eq_getElem?_getD, hgx] at hsn hpl
      simp only [Option.getD_some] at hsn hpl
      repeat' (first
    | (with_reducible apply W_seq_k; intro nx hnx)
    | (with_reducible first | apply W_block | apply W_scope)
    | (with_reducible refine W_prune 243 ?_; simp only [prb, Nat.reducePow, Nat.reduceDiv, Nat.reduceMod, Nat.reduceBEq]; with_reducible apply W_region_l)
    | ((first | (with_reducible apply WL_op; intro nx hnx) | with_reducible refine Ev_out ?_ | (with_reducible refine pfresh_k hnm fun nm hnm => ?_; (try simp only [fmb] at hnm)) | (with_reducible refine pborn_mu hnm fun nm hnm => ?_; (try simp only [fmb] at hnm))); try (simp (maxSteps := 2000000) (disch := omega) only [evb, evd, pbuiltin, constPV, pnck, seqK, blockK, scopeK, pbin, pun, ppick, plen, piaddr, pindex, pfield, pslice, pbound, pconv, pelems, pextract, pmm, PV.mem?, PV.one, PV.cells, pageq, peqs, peq1, pmakes, pstore, pbytes, pmark, pusd, pust, psrc, pkey, pnile, pcap, pgrow, List.set, Value.cells, ↓popG_eq, ↓pop.eq_1, ↓List.getElem?_map, ↓List.getElem?_cons_zero, ↓List.getElem?_cons_succ, Value.oneCell', Nat.reduceAdd, Nat.reduceMul, Nat.reduceSub, Nat.reduceLeDiff, Nat.reduceEqDiff, ↓reduceIte, ne_eq, reduceCtorEq, forall_const, exists_and_left, exists_eq_left', eq_self, Nat.reduceLT, Int.reduceLT, Int.reduceLE, Int.reduceToNat, Int.reduceAdd, Int.reduceSub, Int.reduceNeg, hnm, Tryd.tf0, Tryd.tf3, Tryd.tf4, Tryd.tf8, Tryd.tf9, Tryd.tf22, Tryd.tf23, Tryd.tf26, Tryd.tf45, Tryd.teq45, Tryd.teq94, Tryd.teq104, Tryd.teq113, Tryd.teq114, Tryd.call32, hgw, hgx]); repeat (refine And.intro (by omega) ?_))
    | ((with_reducible first | apply WL_nil | apply W_label | apply W_skip | apply W_exit | apply W_ret); try simp only [seqK, blockK, scopeK, ↓reduceIte, Nat.reduceEqDiff])
    | (with_reducible apply pguard_intro <;> (intro hc; (try simp only [hcb, reduceCtorEq, forall_const, ne_eq] at hc); first | (exfalso; omega) | (exfalso; exact hc trivial) | refine Ev_in ?_))
    | (with_reducible apply W_cond_k; intro _ _ ea eb; (simp only [condK, cob, opnd, constPV, Nat.reduceEqDiff, Nat.reduceLT, ↓reduceIte, hcb, reduceCtorEq, forall_const, ne_eq]); subst ea eb; first | (refine ⟨fun hc => ?_, fun hc => ?_⟩ <;> first | (exfalso; omega) | (exfalso; exact hc trivial) | skip) | skip)
    | (with_reducible apply hnx; clear hnx nx)
    | (with_reducible refine And.intro (by omega) ?_)
    | (with_reducible refine And.intro ?_ ?_)
    | (with_reducible refine pcall_k (cr) ?_; rintro _ _ ⟨rfl, rfl⟩ -; refine Ev_in ?_)
    | (clear hnx nx; with_reducible apply hnx; clear hnx nx)
    | (clear hnx nx; clear hnx nx; with_reducible apply hnx; clear hnx nx)
    | (clear hnx nx; clear hnx nx; clear hnx nx; with_reducible apply hnx; clear hnx nx))
      all_goals first | exact absurd trivial hc | contradiction | exact fun h => False.elim h | (exfalso; omega) | (exfalso; have hc := of_decide_eq_false hc; omega) | (exfalso; simp only [Bool.not_false, Bool.not_true, decide_eq_true_eq, decide_eq_false_iff_not] at *; omega) | skip
      all_goals
        refine hlp _ (40 - (i + 1)) ⟨fr 62 [(6, pn (i + 1)), (5, pstr ((l.take (i + 1)).flatMap (pieceF a))), (1, wP l), (0, ltsP a)], []⟩ (by omega) ?_ ⟨i + 1, by omega, by omega, rfl, rfl⟩
        rw [hsn]
        exact Wk_fr (by simp only [wkb, Nat.reduceEqDiff, Nat.reduceLT, ↓reduceIte, pn]) (Sub_nil _)
    · rw [if_neg h1] at hsn hpl
      by_cases h2 : x < a.length + 2
      · rw [if_pos h2] at hsn hpl
        have hget : ([PV.val (.string ⟨#[32]⟩), PV.val (.string ⟨#[45]⟩), PV.val (.string ⟨#[49]⟩), PV.val (.string ⟨#[122]⟩), PV.val (.string ⟨#[115, 115]⟩), PV.val (.string ⟨#[99]⟩), PV.val (.string ⟨#[195]⟩), PV.val (.string ⟨#[10]⟩)] : List PV).getD y.toNat PV.junk = pstr (oddL.getD y.toNat []) := by
          show (oddL.map pstr).getD y.toNat PV.junk = pstr (oddL.getD y.toNat [])
          have hl : y.toNat < oddL.length := by show y.toNat < 8; omega
          rw [List.getD_eq_getElem?_getD, List.getD_eq_getElem?_getD, List.getElem?_map, List.getElem?_eq_getElem hl]
          rfl
        generalize oddL.getD y.toNat [] = q at *
        repeat' (first
    | (with_reducible apply W_seq_k; intro nx hnx)
    | (with_reducible first | apply W_block | apply W_scope)
    | (with_reducible refine W_prune 243 ?_; simp only [prb, Nat.reducePow, Nat.reduceDiv, Nat.reduceMod, Nat.reduceBEq]; with_reducible apply W_region_l)
    | (with_reducible refine WL_born (by simp) rfl (by simp) ?_; simp only [elemsOf, nl, List.map_cons, List.map_nil, Nat.reduceEqDiff, ↓reduceIte, List.take_succ_cons, List.take_zero, List.range_succ, List.range_zero, List.nil_append, List.cons_append, List.map_append, List.drop_succ_cons, List.drop_zero, Nat.reduceMul, Nat.zero_mul, Nat.one_mul, Nat.reduceAdd])
    | ((first | (with_reducible apply WL_op; intro nx hnx) | with_reducible refine Ev_out ?_ | (with_reducible refine pfresh_k hnm fun nm hnm => ?_; (try simp only [fmb] at hnm)) | (with_reducible refine pborn_im ?_; simp only [elemsOf, nl, List.map_cons, List.map_nil, Nat.reduceEqDiff, ↓reduceIte, List.take_succ_cons, List.take_zero, List.range_succ, List.range_zero, List.nil_append, List.cons_append, List.map_append, List.drop_succ_cons, List.drop_zero, Nat.reduceMul, Nat.zero_mul, Nat.one_mul, Nat.reduceAdd])); try (simp (maxSteps := 2000000) (disch := omega) only [evb, evd, pbuiltin, constPV, pnck, seqK, blockK, scopeK, pbin, pun, ppick, plen, piaddr, pindex, pfield, pslice, pbound, pconv, pelems, pextract, pmm, PV.mem?, PV.one, PV.cells, pageq, peqs, peq1, pmakes, pstore, pbytes, pmark, pusd, pust, psrc, pkey, pnile, pcap, pgrow, List.set, Value.cells, ↓popG_eq, ↓pop.eq_1, ↓List.getElem?_map, ↓List.getElem?_cons_zero, ↓List.getElem?_cons_succ, Value.oneCell', Nat.reduceAdd, Nat.reduceMul, Nat.reduceSub, Nat.reduceLeDiff, Nat.reduceEqDiff, ↓reduceIte, ne_eq, reduceCtorEq, forall_const, exists_and_left, exists_eq_left', eq_self, Nat.reduceLT, Int.reduceLT, Int.reduceLE, Int.reduceToNat, Int.reduceAdd, Int.reduceSub, Int.reduceNeg, hnm, Tryd.tf0, Tryd.tf3, Tryd.tf4, Tryd.tf8, Tryd.tf9, Tryd.tf22, Tryd.tf23, Tryd.tf26, Tryd.tf45, Tryd.teq45, Tryd.teq94, Tryd.teq104, Tryd.teq113, Tryd.teq114, Tryd.call32, hgw, hget]); repeat (refine And.intro (by omega) ?_))
    | ((with_reducible first | apply WL_nil | apply W_label | apply W_skip | apply W_exit | apply W_ret); try simp only [seqK, blockK, scopeK, ↓reduceIte, Nat.reduceEqDiff])
    | (with_reducible apply pguard_intro <;> (intro hc; (try simp only [hcb, reduceCtorEq, forall_const, ne_eq] at hc); first | (exfalso; omega) | (exfalso; exact hc trivial) | refine Ev_in ?_))
    | (with_reducible apply W_cond_k; intro _ _ ea eb; (simp only [condK, cob, opnd, constPV, Nat.reduceEqDiff, Nat.reduceLT, ↓reduceIte, hcb, reduceCtorEq, forall_const, ne_eq]); subst ea eb; first | (refine ⟨fun hc => ?_, fun hc => ?_⟩ <;> first | (exfalso; omega) | (exfalso; exact hc trivial) | skip) | skip)
    | (with_reducible apply hnx; clear hnx nx)
    | (with_reducible refine And.intro (by omega) ?_)
    | (with_reducible refine And.intro ?_ ?_)
    | (with_reducible refine pcall_k (cr) ?_; rintro _ _ ⟨rfl, rfl⟩ -; refine Ev_in ?_)
    | (with_reducible refine pcall_k (co) ?_; rintro _ _ ⟨rfl, rfl⟩ -; refine Ev_in ?_)
    | (clear hnx nx; with_reducible apply hnx; clear hnx nx)
    | (clear hnx nx; clear hnx nx; with_reducible apply hnx; clear hnx nx)
    | (clear hnx nx; clear hnx nx; clear hnx nx; with_reducible apply hnx; clear hnx nx))
        all_goals first | exact absurd trivial hc | contradiction | exact fun h => False.elim h | (exfalso; omega) | (exfalso; have hc := of_decide_eq_false hc; omega) | (exfalso; simp only [Bool.not_false, Bool.not_true, decide_eq_true_eq, decide_eq_false_iff_not] at *; omega) | skip
        all_goals
          refine hlp _ (40 - (i + 1)) ⟨fr 62 [(6, pn (i + 1)), (5, pstr ((l.take (i + 1)).flatMap (pieceF a))), (1, wP l), (0, ltsP a)], []⟩ (by omega) ?_ ⟨i + 1, by omega, by omega, rfl, rfl⟩
          rw [hsn]
          exact Wk_fr (by simp only [wkb, Nat.reduceEqDiff, Nat.reduceLT, ↓reduceIte, pn]) (Sub_nil _)
      · rw [if_neg h2] at hsn hpl
        have hm1 : (x - a.length - 2).tmod a.length = (x - a.length - 2) % a.length := Int.tmod_eq_emod_of_nonneg (by omega)
        have hm2 := Int.emod_nonneg (x - a.length - 2) (show (a.length : Int) ≠ 0 by omega)
        have hm3 := Int.emod_lt_of_pos (x - a.length - 2) (show (0 : Int) < a.length by omega)
        generalize (x - a.length - 2) % a.length = v at *
        have hj : v.toNat < a.length := by omega
        have hgx : a[v.toNat]? = some a[v.toNat] := List.getElem?_eq_getElem hj
        rw [List.getD_eq_getElem?_getD, hgx] at hsn hpl
        simp only [Option.getD_some] at hsn hpl
        repeat' (first
    | (with_reducible apply W_seq_k; intro nx hnx)
    | (with_reducible first | apply W_block | apply W_scope)
    | (with_reducible refine W_prune 243 ?_; simp only [prb, Nat.reducePow, Nat.reduceDiv, Nat.reduceMod, Nat.reduceBEq]; with_reducible apply W_region_l)
    | ((first | (with_reducible apply WL_op; intro nx hnx) | with_reducible refine Ev_out ?_ | (with_reducible refine pfresh_k hnm fun nm hnm => ?_; (try simp only [fmb] at hnm)) | (with_reducible refine pborn_mu hnm fun nm hnm => ?_; (try simp only [fmb] at hnm))); try (simp (maxSteps := 2000000) (disch := omega) only [evb, evd, pbuiltin, constPV, pnck, seqK, blockK, scopeK, pbin, pun, ppick, plen, piaddr, pindex, pfield, pslice, pbound, pconv, pelems, pextract, pmm, PV.mem?, PV.one, PV.cells, pageq, peqs, peq1, pmakes, pstore, pbytes, pmark, pusd, pust, psrc, pkey, pnile, pcap, pgrow, List.set, Value.cells, ↓popG_eq, ↓pop.eq_1, ↓List.getElem?_map, ↓List.getElem?_cons_zero, ↓List.getElem?_cons_succ, Value.oneCell', Nat.reduceAdd, Nat.reduceMul, Nat.reduceSub, Nat.reduceLeDiff, Nat.reduceEqDiff, ↓reduceIte, ne_eq, reduceCtorEq, forall_const, exists_and_left, exists_eq_left', eq_self, Nat.reduceLT, Int.reduceLT, Int.reduceLE, Int.reduceToNat, Int.reduceAdd, Int.reduceSub, Int.reduceNeg, hnm, Tryd.tf0, Tryd.tf3, Tryd.tf4, Tryd.tf8, Tryd.tf9, Tryd.tf22, Tryd.tf23, Tryd.tf26, Tryd.tf45, Tryd.teq45, Tryd.teq94, Tryd.teq104, Tryd.teq113, Tryd.teq114, Tryd.call32, hgw, hgx, hm1]); repeat (refine And.intro (by omega) ?_))
    | ((with_reducible first | apply WL_nil | apply W_label | apply W_skip | apply W_exit | apply W_ret); try simp only [seqK, blockK, scopeK, ↓reduceIte, Nat.reduceEqDiff])
    | (with_reducible apply pguard_intro <;> (intro hc; (try simp only [hcb, reduceCtorEq, forall_const, ne_eq] at hc); first | (exfalso; omega) | (exfalso; exact hc trivial) | refine Ev_in ?_))
    | (with_reducible apply W_cond_k; intro _ _ ea eb; (simp only [condK, cob, opnd, constPV, Nat.reduceEqDiff, Nat.reduceLT, ↓reduceIte, hcb, reduceCtorEq, forall_const, ne_eq]); subst ea eb; first | (refine ⟨fun hc => ?_, fun hc => ?_⟩ <;> first | (exfalso; omega) | (exfalso; exact hc trivial) | skip) | skip)
    | (with_reducible apply hnx; clear hnx nx)
    | (with_reducible refine And.intro (by omega) ?_)
    | (with_reducible refine And.intro ?_ ?_)
    | (with_reducible refine pcall_k (cr) ?_; rintro _ _ ⟨rfl, rfl⟩ -; refine Ev_in ?_)
    | (clear hnx nx; with_reducible apply hnx; clear hnx nx)
    | (clear hnx nx; clear hnx nx; with_reducible apply hnx; clear hnx nx)
    | (clear hnx nx; clear hnx nx; clear hnx nx; with_reducible apply hnx; clear hnx nx))
        all_goals first | exact absurd trivial hc | contradiction | exact fun h => False.elim h | (exfalso; omega) | (exfalso; have hc := of_decide_eq_false hc; omega) | (exfalso; simp only [Bool.not_false, Bool.not_true, decide_eq_true_eq, decide_eq_false_iff_not] at *; omega) | skip
        all_goals
          refine hlp _ (40 - (i + 1)) ⟨fr 62 [(6, pn (i + 1)), (5, pstr ((l.take (i + 1)).flatMap (pieceF a))), (1, wP l), (0, ltsP a)], []⟩ (by omega) ?_ ⟨i + 1, by omega, by omega, rfl, rfl⟩
          rw [hsn]
          exact Wk_fr (by simp only [wkb, Nat.reduceEqDiff, Nat.reduceLT, ↓reduceIte, pn]) (Sub_nil _)
  · have he : l.take i = l.take 40 := by
      by_cases h : i < l.length
      · have : i = 40 := by omega
        rw [this]
      · rw [List.take_of_length_le (by omega), List.take_of_length_le (by omega)]
    repeat' (first
    | (with_reducible apply W_seq_k; intro nx hnx)
    | (with_reducible first | apply W_block | apply W_scope)
    | (with_reducible refine W_prune 243 ?_; simp only [prb, Nat.reducePow, Nat.reduceDiv, Nat.reduceMod, Nat.reduceBEq]; with_reducible apply W_region_l)
    | ((first | (with_reducible apply WL_op; intro nx hnx) | with_reducible refine Ev_out ?_ | (with_reducible refine pfresh_k hnm fun nm hnm => ?_; (try simp only [fmb] at hnm)) | (with_reducible refine pborn_mu hnm fun nm hnm => ?_; (try simp only [fmb] at hnm))); try (simp (maxSteps := 2000000) (disch := omega) only [evb, evd, pbuiltin, constPV, pnck, seqK, blockK, scopeK, pbin, pun, ppick, plen, piaddr, pindex, pfield, pslice, pbound, pconv, pelems, pextract, pmm, PV.mem?, PV.one, PV.cells, pageq, peqs, peq1, pmakes, pstore, pbytes, pmark, pusd, pust, psrc, pkey, pnile, pcap, pgrow, List.set, Value.cells, ↓popG_eq, ↓pop.eq_1, ↓List.getElem?_map, ↓List.getElem?_cons_zero, ↓List.getElem?_cons_succ, Value.oneCell', Nat.reduceAdd, Nat.reduceMul, Nat.reduceSub, Nat.reduceLeDiff, Nat.reduceEqDiff, ↓reduceIte, ne_eq, reduceCtorEq, forall_const, exists_and_left, exists_eq_left', eq_self, Nat.reduceLT, Int.reduceLT, Int.reduceLE, Int.reduceToNat, Int.reduceAdd, Int.reduceSub, Int.reduceNeg, hnm, Tryd.tf0, Tryd.tf3, Tryd.tf4, Tryd.tf8, Tryd.tf9, Tryd.tf22, Tryd.tf23, Tryd.tf26, Tryd.tf45, Tryd.teq45, Tryd.teq94, Tryd.teq104, Tryd.teq113, Tryd.teq114, Tryd.call32]); repeat (refine And.intro (by omega) ?_))
    | ((with_reducible first | apply WL_nil | apply W_label | apply W_skip | apply W_exit | apply W_ret); try simp only [seqK, blockK, scopeK, ↓reduceIte, Nat.reduceEqDiff])
    | (with_reducible apply pguard_intro <;> (intro hc; (try simp only [hcb, reduceCtorEq, forall_const, ne_eq] at hc); first | (exfalso; omega) | (exfalso; exact hc trivial) | refine Ev_in ?_))
    | (with_reducible apply W_cond_k; intro _ _ ea eb; (simp only [condK, cob, opnd, constPV, Nat.reduceEqDiff, Nat.reduceLT, ↓reduceIte, hcb, reduceCtorEq, forall_const, ne_eq]); subst ea eb; first | (refine ⟨fun hc => ?_, fun hc => ?_⟩ <;> first | (exfalso; omega) | (exfalso; exact hc trivial) | skip) | skip)
    | (with_reducible apply hnx; clear hnx nx)
    | (with_reducible refine And.intro (by omega) ?_)
    | (with_reducible refine And.intro ?_ ?_)
    | (clear hnx nx; with_reducible apply hnx; clear hnx nx)
    | (clear hnx nx; clear hnx nx; with_reducible apply hnx; clear hnx nx)
    | (clear hnx nx; clear hnx nx; clear hnx nx; with_reducible apply hnx; clear hnx nx))
    all_goals first | exact absurd trivial hc | contradiction | exact fun h => False.elim h | (exfalso; omega) | (exfalso; have hc := of_decide_eq_false hc; omega) | (exfalso; simp only [Bool.not_false, Bool.not_true, decide_eq_true_eq, decide_eq_false_iff_not] at *; omega) | skip
    all_goals
      refine hfin _ _ (Fin_ret1 rfl (Sub_nil _) ?_); simp only [List.getD_cons_zero, List.getD_cons_succ, fr_getD_cons, fr_getD_nil, Nat.reduceEqDiff, Nat.reduceLT, ↓reduceIte]
      exact ⟨by rw [he]; rfl, by trivial⟩
end Go.PM

namespace Go.PM
open Go.Proofs
attribute [local irreducible] W PCalls pcall pcallI WL
set_option maxRecDepth 100000
set_option maxHeartbeats 8000000
/-- The letter with the longest text with which s begins, of the first n. -/
def longB (a : List Ltr) (s : List UInt8) : Nat → Option Nat
  | 0 => none
  | n + 1 => if (a.getD n default).text.isPrefixOf s = true ∧ (∀ k, longB a s n = some k → (a.getD k default).text.length < (a.getD n default).text.length) then some n else longB a s n
def longI (a : List Ltr) (s : List UInt8) (n : Nat) : Int := match longB a s n with | some k => k | none => -1
theorem longB_lt {a : List Ltr} {s : List UInt8} {k : Nat} : ∀ {n : Nat}, longB a s n = some k → k < n
  | 0, h => by simp [longB] at h
  | n + 1, h => by
    unfold longB at h
    split at h
    · cases h
      omega
    · have := longB_lt h
      omega
theorem longest_c (G : Globs) (a : List Ltr) (s : List UInt8) (p : Nat) (hp : p ≤ s.length) (hs : s.length ≤ 100000000) (ha : a.length ≤ 100000000) (ht : ∀ x ∈ a, x.text.length ≤ 65536) :
    PCalls Tryd.prog G 35 [ltsP a, pstr s, pn p] [] (fun res H => res = pint .i64 (longI a (s.drop p) a.length) ∧ H = []) := by
  (refine PCalls_f Tryd.func35 rfl Tryd.ntmps35 Tryd.results35 (by simp) fun fin hfin => ?_; have hnm : True := trivial; simp (maxSteps := 2000000) (disch := omega) only [evb, evd, pbuiltin, constPV, pnck, seqK, blockK, scopeK, pbin, pun, ppick, plen, piaddr, pindex, pfield, pslice, pbound, pconv, pelems, pextract, pmm, PV.mem?, PV.one, PV.cells, pageq, peqs, peq1, pmakes, pstore, pbytes, pmark, pusd, pust, psrc, pkey, pnile, pcap, pgrow, List.set, Value.cells, ↓popG_eq, ↓pop.eq_1, ↓List.getElem?_map, ↓List.getElem?_cons_zero, ↓List.getElem?_cons_succ, Value.oneCell', Nat.reduceAdd, Nat.reduceMul, Nat.reduceSub, Nat.reduceLeDiff, Nat.reduceEqDiff, ↓reduceIte, ne_eq, reduceCtorEq, forall_const, exists_and_left, exists_eq_left', eq_self, Nat.reduceLT, Int.reduceLT, Int.reduceLE, Int.reduceToNat, Int.reduceAdd, Int.reduceSub, Int.reduceNeg, hnm, Tryd.tf0, Tryd.tf3, Tryd.tf4, Tryd.tf9, Tryd.tf23, Tryd.tf45, Tryd.teq45, Tryd.teq94, Tryd.teq104, Tryd.teq113, Tryd.teq114])
  repeat' (first
    | (with_reducible apply W_seq_k; intro nx hnx)
    | (with_reducible first | apply W_block | apply W_scope)
    | (with_reducible refine W_prune 967 ?_; simp only [prb, Nat.reducePow, Nat.reduceDiv, Nat.reduceMod, Nat.reduceBEq]; first | (with_reducible apply W_region_l) | with_reducible refine W_region_draw (id := 6) 1 (.op 0 true (.op 1 true (.op 2 true (.op 3 true (.op 4 true (.op 5 true (.op 6 true (.op 7 true (.op 8 true (.op 9 true (.op 10 true (.op 11 true (.op 12 true (.op 13 true (.op 14 true (.op 15 true (.op 16 true (.op 17 true (.op 18 true (.op 19 true (.op 20 true (.op 21 true (.op 22 true (.op 23 true (.op 24 true (.op 25 true (.op 26 true (.op 27 true (.op 28 true (.op 29 true (.op 30 true (.op 31 true (.op 32 true (.op 33 true (.done))))))))))))))))))))))))))))))))))) (by kernel_rfl) ?_)
    | ((first | (with_reducible apply WL_op; intro nx hnx) | with_reducible refine Ev_out ?_ | (with_reducible apply popsD_op; intro nx hnx) | (with_reducible refine popsD_alt ?_ ?_; intro nx hnx)); try (simp (maxSteps := 2000000) (disch := omega) only [evb, evd, pbuiltin, constPV, pnck, seqK, blockK, scopeK, pbin, pun, ppick, plen, piaddr, pindex, pfield, pslice, pbound, pconv, pelems, pextract, pmm, PV.mem?, PV.one, PV.cells, pageq, peqs, peq1, pmakes, pstore, pbytes, pmark, pusd, pust, psrc, pkey, pnile, pcap, pgrow, List.set, Value.cells, ↓popG_eq, ↓pop.eq_1, ↓List.getElem?_map, ↓List.getElem?_cons_zero, ↓List.getElem?_cons_succ, Value.oneCell', Nat.reduceAdd, Nat.reduceMul, Nat.reduceSub, Nat.reduceLeDiff, Nat.reduceEqDiff, ↓reduceIte, ne_eq, reduceCtorEq, forall_const, exists_and_left, exists_eq_left', eq_self, Nat.reduceLT, Int.reduceLT, Int.reduceLE, Int.reduceToNat, Int.reduceAdd, Int.reduceSub, Int.reduceNeg, hnm, Tryd.tf0, Tryd.tf3, Tryd.tf4, Tryd.tf9, Tryd.tf23, Tryd.tf45, Tryd.teq45, Tryd.teq94, Tryd.teq104, Tryd.teq113, Tryd.teq114]); repeat (refine And.intro (by omega) ?_))
    | ((with_reducible first | apply WL_nil | apply W_label | apply W_skip | apply W_exit | apply W_ret | apply popsD_done); try simp only [seqK, blockK, scopeK, ↓reduceIte, Nat.reduceEqDiff])
    | with_reducible exact popsD_stop
    | (with_reducible apply pguard_intro <;> (intro hc; (try simp only [hcb, reduceCtorEq, forall_const, ne_eq] at hc); first | (exfalso; omega) | (exfalso; exact hc trivial) | refine Ev_in ?_))
    | (with_reducible apply W_cond_k; intro _ _ ea eb; (simp only [condK, cob, opnd, constPV, Nat.reduceEqDiff, Nat.reduceLT, ↓reduceIte, hcb, reduceCtorEq, forall_const, ne_eq]); subst ea eb; first | (refine ⟨fun hc => ?_, fun hc => ?_⟩ <;> first | (exfalso; omega) | (exfalso; exact hc trivial) | skip) | skip)
    | (with_reducible apply hnx; clear hnx nx)
    | (with_reducible refine And.intro (by omega) ?_)
    | (with_reducible refine And.intro ?_ ?_)
    | (clear hnx nx; with_reducible apply hnx; clear hnx nx)
    | (clear hnx nx; clear hnx nx; with_reducible apply hnx; clear hnx nx)
    | (clear hnx nx; clear hnx nx; clear hnx nx; with_reducible apply hnx; clear hnx nx))
  refine W_loop_k (fun z τ => ∃ i : Nat, i ≤ a.length ∧ z = a.length - i ∧ τ = ⟨fr 58 [(8, pn i), (7, pint .i64 (longI a (s.drop p) i)), (2, pn p), (1, pstr s), (0, ltsP a)], []⟩) a.length
    ⟨fr 58 [(8, pn 0), (7, .val (.int .i64 (-1))), (2, pn p), (1, pstr s), (0, ltsP a)], []⟩ (by
    exact Wk_fr (by simp only [wkb, Nat.reduceEqDiff, Nat.reduceLT, ↓reduceIte, pn]) (Sub_nil _)) ⟨0, by omega, by omega, rfl⟩ ?_
  rintro z τ ⟨i, hi, rfl, rfl⟩ lp hlp
  by_cases hil : i < a.length
  · have hti := ht a[i] (List.getElem_mem hil)
    have hgi : a[i]? = some a[i] := List.getElem?_eq_getElem hil
    have hstep : longB a (s.drop p) (i + 1) = if a[i].text.isPrefixOf (s.drop p) = true ∧ (∀ k, longB a (s.drop p) i = some k → (a.getD k default).text.length < a[i].text.length) then some i else longB a (s.drop p) i := by
      rw [longB, List.getD_eq_getElem?_getD, hgi]
      rfl
    obtain ⟨t, htx⟩ : ∃ t, t = a[i].text := ⟨_, rfl⟩
    rw [← htx] at hti hstep
    have hpre : (t.isPrefixOf (s.drop p) = true) ↔ (p + t.length ≤ s.length ∧ List.drop p (List.take (p + t.length) s) = t) := by
      rw [List.isPrefixOf_iff_prefix, List.prefix_iff_eq_take, List.drop_take, Nat.add_sub_cancel_left]
      constructor
      · intro h
        refine ⟨?_, h.symm⟩
        have := congrArg List.length h
        rw [List.length_take, List.length_drop] at this
        omega
      · rintro ⟨_, h⟩
        exact h.symm
    have hk0 : ((p : Int) + (t.length : Int)).toNat = p + t.length := by omega
    cases hb : longB a (s.drop p) i with
    | none =>
      have hli : longI a (s.drop p) i = -1 := by rw [longI, hb]
      rw [hli]
      repeat' (first
    | (with_reducible apply W_seq_k; intro nx hnx)
    | (with_reducible first | apply W_block | apply W_scope)
    | (with_reducible refine W_prune 967 ?_; simp only [prb, Nat.reducePow, Nat.reduceDiv, Nat.reduceMod, Nat.reduceBEq]; first | (with_reducible apply W_region_l) | with_reducible refine W_region_draw (id := 6) 1 (.op 0 true (.op 1 true (.op 2 true (.op 3 true (.op 4 true (.op 5 true (.op 6 true (.op 7 true (.op 8 true (.op 9 true (.op 10 true (.op 11 true (.op 12 true (.op 13 true (.op 14 true (.op 15 true (.op 16 true (.op 17 true (.op 18 true (.op 19 true (.op 20 true (.op 21 true (.op 22 true (.op 23 true (.op 24 true (.op 25 true (.op 26 true (.op 27 true (.op 28 true (.op 29 true (.op 30 true (.op 31 true (.op 32 true (.op 33 true (.done))))))))))))))))))))))))))))))))))) (by kernel_rfl) ?_)
    | ((first | (with_reducible apply WL_op; intro nx hnx) | with_reducible refine Ev_out ?_ | (with_reducible apply popsD_op; intro nx hnx) | (with_reducible refine popsD_alt ?_ ?_; intro nx hnx)); try (simp (maxSteps := 2000000) (disch := omega) only [evb, evd, pbuiltin, constPV, pnck, seqK, blockK, scopeK, pbin, pun, ppick, plen, piaddr, pindex, pfield, pslice, pbound, pconv, pelems, pextract, pmm, PV.mem?, PV.one, PV.cells, pageq, peqs, peq1, pmakes, pstore, pbytes, pmark, pusd, pust, psrc, pkey, pnile, pcap, pgrow, List.set, Value.cells, ↓popG_eq, ↓pop.eq_1, ↓List.getElem?_map, ↓List.getElem?_cons_zero, ↓List.getElem?_cons_succ, Value.oneCell', Nat.reduceAdd, Nat.reduceMul, Nat.reduceSub, Nat.reduceLeDiff, Nat.reduceEqDiff, ↓reduceIte, ne_eq, reduceCtorEq, forall_const, exists_and_left, exists_eq_left', eq_self, Nat.reduceLT, Int.reduceLT, Int.reduceLE, Int.reduceToNat, Int.reduceAdd, Int.reduceSub, Int.reduceNeg, hnm, Tryd.tf0, Tryd.tf3, Tryd.tf4, Tryd.tf9, Tryd.tf23, Tryd.tf45, Tryd.teq45, Tryd.teq94, Tryd.teq104, Tryd.teq113, Tryd.teq114, hgi, ← htx, hk0]); repeat (refine And.intro (by omega) ?_))
    | ((with_reducible first | apply WL_nil | apply W_label | apply W_skip | apply W_exit | apply W_ret | apply popsD_done); try simp only [seqK, blockK, scopeK, ↓reduceIte, Nat.reduceEqDiff])
    | with_reducible exact popsD_stop
    | (with_reducible apply pguard_intro <;> (intro hc; (try simp only [hcb, reduceCtorEq, forall_const, ne_eq] at hc); first | (exfalso; omega) | (exfalso; exact hc trivial) | refine Ev_in ?_))
    | (with_reducible apply W_cond_k; intro _ _ ea eb; (simp only [condK, cob, opnd, constPV, Nat.reduceEqDiff, Nat.reduceLT, ↓reduceIte, hcb, reduceCtorEq, forall_const, ne_eq]); subst ea eb; first | (refine ⟨fun hc => ?_, fun hc => ?_⟩ <;> first | (exfalso; omega) | (exfalso; exact hc trivial) | skip) | skip)
    | (with_reducible apply hnx; clear hnx nx)
    | (with_reducible refine And.intro (by omega) ?_)
    | (with_reducible refine And.intro ?_ ?_)
    | (clear hnx nx; with_reducible apply hnx; clear hnx nx)
    | (clear hnx nx; clear hnx nx; with_reducible apply hnx; clear hnx nx)
    | (clear hnx nx; clear hnx nx; clear hnx nx; with_reducible apply hnx; clear hnx nx))
      all_goals first | exact absurd trivial hc | contradiction | exact fun h => False.elim h | (exfalso; omega) | (exfalso; have hc := of_decide_eq_false hc; omega) | (exfalso; simp only [Bool.not_false, Bool.not_true, decide_eq_true_eq, decide_eq_false_iff_not] at *; omega) | skip
      all_goals first
        | (have e : longI a (s.drop p) (i + 1) = i := by
             unfold longI
             rw [hstep, if_pos ⟨hpre.2 ⟨by omega, by assumption⟩, fun k' h => by rw [hb] at h; cases h⟩]
           refine hlp _ (a.length - (i + 1)) ⟨fr 58 [(8, pn (i + 1)), (7, pint .i64 (longI a (s.drop p) (i + 1))), (2, pn p), (1, pstr s), (0, ltsP a)], []⟩ (by omega) ?_ ⟨i + 1, by omega, rfl, rfl⟩
           rw [e]
           exact Wk_fr (by simp only [wkb, Nat.reduceEqDiff, Nat.reduceLT, ↓reduceIte, pn]) (Sub_nil _))
        | (have e : longI a (s.drop p) (i + 1) = longI a (s.drop p) i := by
             unfold longI
             rw [hstep, if_neg]
             rintro ⟨q1, q2⟩
             obtain ⟨q3, q4⟩ := hpre.1 q1
             first
               | omega
               | contradiction
               | (skip)
           refine hlp _ (a.length - (i + 1)) ⟨fr 58 [(8, pn (i + 1)), (7, pint .i64 (longI a (s.drop p) (i + 1))), (2, pn p), (1, pstr s), (0, ltsP a)], []⟩ (by omega) ?_ ⟨i + 1, by omega, rfl, rfl⟩
           rw [e, hli]
           exact Wk_fr (by simp only [wkb, Nat.reduceEqDiff, Nat.reduceLT, ↓reduceIte, pn]) (Sub_nil _))
    | some k =>
      have hki := longB_lt hb
      have hli : longI a (s.drop p) i = k := by rw [longI, hb]
      have hgk : a[k]? = some a[k] := List.getElem?_eq_getElem (by omega)
      have hkx : (a.getD k default) = a[k] := by rw [List.getD_eq_getElem?_getD, hgk]; rfl
      have htk := ht a[k] (List.getElem_mem (by omega))
      rw [hli]
      repeat' (first
    | (with_reducible apply W_seq_k; intro nx hnx)
    | (with_reducible first | apply W_block | apply W_scope)
    | (with_reducible refine W_prune 967 ?_; simp only [prb, Nat.reducePow, Nat.reduceDiv, Nat.reduceMod, Nat.reduceBEq]; first | (with_reducible apply W_region_l) | with_reducible refine W_region_draw (id := 6) 1 (.op 0 true (.op 1 true (.op 2 true (.op 3 true (.op 4 true (.op 5 true (.op 6 true (.op 7 true (.op 8 true (.op 9 true (.op 10 true (.op 11 true (.op 12 true (.op 13 true (.op 14 true (.op 15 true (.op 16 true (.op 17 true (.op 18 true (.op 19 true (.op 20 true (.op 21 true (.op 22 true (.op 23 true (.op 24 true (.op 25 true (.op 26 true (.op 27 true (.op 28 true (.op 29 true (.op 30 true (.op 31 true (.op 32 true (.op 33 true (.done))))))))))))))))))))))))))))))))))) (by kernel_rfl) ?_)
    | ((first | (with_reducible apply WL_op; intro nx hnx) | with_reducible refine Ev_out ?_ | (with_reducible apply popsD_op; intro nx hnx) | (with_reducible refine popsD_alt ?_ ?_; intro nx hnx)); try (simp (maxSteps := 2000000) (disch := omega) only [evb, evd, pbuiltin, constPV, pnck, seqK, blockK, scopeK, pbin, pun, ppick, plen, piaddr, pindex, pfield, pslice, pbound, pconv, pelems, pextract, pmm, PV.mem?, PV.one, PV.cells, pageq, peqs, peq1, pmakes, pstore, pbytes, pmark, pusd, pust, psrc, pkey, pnile, pcap, pgrow, List.set, Value.cells, ↓popG_eq, ↓pop.eq_1, ↓List.getElem?_map, ↓List.getElem?_cons_zero, ↓List.getElem?_cons_succ, Value.oneCell', Nat.reduceAdd, Nat.reduceMul, Nat.reduceSub, Nat.reduceLeDiff, Nat.reduceEqDiff, ↓reduceIte, ne_eq, reduceCtorEq, forall_const, exists_and_left, exists_eq_left', eq_self, Nat.reduceLT, Int.reduceLT, Int.reduceLE, Int.reduceToNat, Int.reduceAdd, Int.reduceSub, Int.reduceNeg, hnm, Tryd.tf0, Tryd.tf3, Tryd.tf4, Tryd.tf9, Tryd.tf23, Tryd.tf45, Tryd.teq45, Tryd.teq94, Tryd.teq104, Tryd.teq113, Tryd.teq114, hgi, ← htx, hk0, hgk]); repeat (refine And.intro (by omega) ?_))
    | ((with_reducible first | apply WL_nil | apply W_label | apply W_skip | apply W_exit | apply W_ret | apply popsD_done); try simp only [seqK, blockK, scopeK, ↓reduceIte, Nat.reduceEqDiff])
    | with_reducible exact popsD_stop
    | (with_reducible apply pguard_intro <;> (intro hc; (try simp only [hcb, reduceCtorEq, forall_const, ne_eq] at hc); first | (exfalso; omega) | (exfalso; exact hc trivial) | refine Ev_in ?_))
    | (with_reducible apply W_cond_k; intro _ _ ea eb; (simp only [condK, cob, opnd, constPV, Nat.reduceEqDiff, Nat.reduceLT, ↓reduceIte, hcb, reduceCtorEq, forall_const, ne_eq]); subst ea eb; first | (refine ⟨fun hc => ?_, fun hc => ?_⟩ <;> first | (exfalso; omega) | (exfalso; exact hc trivial) | skip) | skip)
    | (with_reducible apply hnx; clear hnx nx)
    | (with_reducible refine And.intro (by omega) ?_)
    | (with_reducible refine And.intro ?_ ?_)
    | (clear hnx nx; with_reducible apply hnx; clear hnx nx)
    | (clear hnx nx; clear hnx nx; with_reducible apply hnx; clear hnx nx)
    | (clear hnx nx; clear hnx nx; clear hnx nx; with_reducible apply hnx; clear hnx nx))
      all_goals first | exact absurd trivial hc | contradiction | exact fun h => False.elim h | (exfalso; omega) | (exfalso; have hc := of_decide_eq_false hc; omega) | (exfalso; simp only [Bool.not_false, Bool.not_true, decide_eq_true_eq, decide_eq_false_iff_not] at *; omega) | skip
      all_goals first
        | (have e : longI a (s.drop p) (i + 1) = i := by
             unfold longI
             rw [hstep, if_pos ⟨hpre.2 ⟨by omega, by assumption⟩, fun k' h => by rw [hb] at h; cases h; rw [hkx]; omega⟩]
           refine hlp _ (a.length - (i + 1)) ⟨fr 58 [(8, pn (i + 1)), (7, pint .i64 (longI a (s.drop p) (i + 1))), (2, pn p), (1, pstr s), (0, ltsP a)], []⟩ (by omega) ?_ ⟨i + 1, by omega, rfl, rfl⟩
           rw [e]
           exact Wk_fr (by simp only [wkb, Nat.reduceEqDiff, Nat.reduceLT, ↓reduceIte, pn]) (Sub_nil _))
        | (have e : longI a (s.drop p) (i + 1) = longI a (s.drop p) i := by
             unfold longI
             rw [hstep, if_neg]
             rintro ⟨q1, q2⟩
             obtain ⟨q3, q4⟩ := hpre.1 q1
             first
               | omega
               | contradiction
               | (have q5 := q2 _ hb; rw [hkx] at q5; omega)
           refine hlp _ (a.length - (i + 1)) ⟨fr 58 [(8, pn (i + 1)), (7, pint .i64 (longI a (s.drop p) (i + 1))), (2, pn p), (1, pstr s), (0, ltsP a)], []⟩ (by omega) ?_ ⟨i + 1, by omega, rfl, rfl⟩
           rw [e, hli]
           exact Wk_fr (by simp only [wkb, Nat.reduceEqDiff, Nat.reduceLT, ↓reduceIte, pn]) (Sub_nil _))
  · have hi2 : i = a.length := by omega
    subst hi2
    repeat' (first
    | (with_reducible apply W_seq_k; intro nx hnx)
    | (with_reducible first | apply W_block | apply W_scope)
    | (with_reducible refine W_prune 967 ?_; simp only [prb, Nat.reducePow, Nat.reduceDiv, Nat.reduceMod, Nat.reduceBEq]; first | (with_reducible apply W_region_l) | with_reducible refine W_region_draw (id := 6) 1 (.op 0 true (.op 1 true (.op 2 true (.op 3 true (.op 4 true (.op 5 true (.op 6 true (.op 7 true (.op 8 true (.op 9 true (.op 10 true (.op 11 true (.op 12 true (.op 13 true (.op 14 true (.op 15 true (.op 16 true (.op 17 true (.op 18 true (.op 19 true (.op 20 true (.op 21 true (.op 22 true (.op 23 true (.op 24 true (.op 25 true (.op 26 true (.op 27 true (.op 28 true (.op 29 true (.op 30 true (.op 31 true (.op 32 true (.op 33 true (.done))))))))))))))))))))))))))))))))))) (by kernel_rfl) ?_)
    | ((first | (with_reducible apply WL_op; intro nx hnx) | with_reducible refine Ev_out ?_ | (with_reducible apply popsD_op; intro nx hnx) | (with_reducible refine popsD_alt ?_ ?_; intro nx hnx)); try (simp (maxSteps := 2000000) (disch := omega) only [evb, evd, pbuiltin, constPV, pnck, seqK, blockK, scopeK, pbin, pun, ppick, plen, piaddr, pindex, pfield, pslice, pbound, pconv, pelems, pextract, pmm, PV.mem?, PV.one, PV.cells, pageq, peqs, peq1, pmakes, pstore, pbytes, pmark, pusd, pust, psrc, pkey, pnile, pcap, pgrow, List.set, Value.cells, ↓popG_eq, ↓pop.eq_1, ↓List.getElem?_map, ↓List.getElem?_cons_zero, ↓List.getElem?_cons_succ, Value.oneCell', Nat.reduceAdd, Nat.reduceMul, Nat.reduceSub, Nat.reduceLeDiff, Nat.reduceEqDiff, ↓reduceIte, ne_eq, reduceCtorEq, forall_const, exists_and_left, exists_eq_left', eq_self, Nat.reduceLT, Int.reduceLT, Int.reduceLE, Int.reduceToNat, Int.reduceAdd, Int.reduceSub, Int.reduceNeg, hnm, Tryd.tf0, Tryd.tf3, Tryd.tf4, Tryd.tf9, Tryd.tf23, Tryd.tf45, Tryd.teq45, Tryd.teq94, Tryd.teq104, Tryd.teq113, Tryd.teq114]); repeat (refine And.intro (by omega) ?_))
    | ((with_reducible first | apply WL_nil | apply W_label | apply W_skip | apply W_exit | apply W_ret | apply popsD_done); try simp only [seqK, blockK, scopeK, ↓reduceIte, Nat.reduceEqDiff])
    | with_reducible exact popsD_stop
    | (with_reducible apply pguard_intro <;> (intro hc; (try simp only [hcb, reduceCtorEq, forall_const, ne_eq] at hc); first | (exfalso; omega) | (exfalso; exact hc trivial) | refine Ev_in ?_))
    | (with_reducible apply W_cond_k; intro _ _ ea eb; (simp only [condK, cob, opnd, constPV, Nat.reduceEqDiff, Nat.reduceLT, ↓reduceIte, hcb, reduceCtorEq, forall_const, ne_eq]); subst ea eb; first | (refine ⟨fun hc => ?_, fun hc => ?_⟩ <;> first | (exfalso; omega) | (exfalso; exact hc trivial) | skip) | skip)
    | (with_reducible apply hnx; clear hnx nx)
    | (with_reducible refine And.intro (by omega) ?_)
    | (with_reducible refine And.intro ?_ ?_)
    | (clear hnx nx; with_reducible apply hnx; clear hnx nx)
    | (clear hnx nx; clear hnx nx; with_reducible apply hnx; clear hnx nx)
    | (clear hnx nx; clear hnx nx; clear hnx nx; with_reducible apply hnx; clear hnx nx))
    all_goals first | exact absurd trivial hc | contradiction | exact fun h => False.elim h | (exfalso; omega) | (exfalso; have hc := of_decide_eq_false hc; omega) | (exfalso; simp only [Bool.not_false, Bool.not_true, decide_eq_true_eq, decide_eq_false_iff_not] at *; omega) | skip
    all_goals
      (refine hfin _ _ (Fin_ret1 rfl (Sub_nil _) ?_); simp only [List.getD_cons_zero, List.getD_cons_succ, fr_getD_cons, fr_getD_nil, Nat.reduceEqDiff, Nat.reduceLT, ↓reduceIte]; first | trivial | exact ⟨rfl, by trivial⟩ | (simp; done) | (simp; omega))
end Go.PM

namespace Go.PM
open Go.Proofs
theorem longB_none {a : List Ltr} {s : List UInt8} : ∀ {n : Nat}, longB a s n = none → ∀ j, j < n → (a.getD j default).text.isPrefixOf s = true → False
  | 0, _, j, hj, _ => by omega
  | n + 1, hn, j, hj, hp => by
    unfold longB at hn
    split at hn
    · cases hn
    · rename_i hc
      by_cases hjn : j = n
      · subst hjn
        exact hc ⟨hp, fun k hk => by rw [hn] at hk; cases hk⟩
      · exact longB_none hn j (by omega) hp
theorem longB_some {a : List Ltr} {s : List UInt8} {k : Nat} : ∀ {n : Nat}, longB a s n = some k → (a.getD k default).text.isPrefixOf s = true ∧ ∀ j, j < n → (a.getD j default).text.isPrefixOf s = true → (a.getD j default).text.length ≤ (a.getD k default).text.length
  | 0, h => by simp [longB] at h
  | n + 1, h => by
    unfold longB at h
    split at h
    · rename_i hc
      simp only [Option.some.injEq] at h
      subst h
      refine ⟨hc.1, fun j hj hp => ?_⟩
      by_cases hjn : j = n
      · subst hjn
        exact Nat.le_refl _
      · cases hb : longB a s n with
        | some m =>
          have h1 := (longB_some hb).2 j (by omega) hp
          have h2 := hc.2 m hb
          omega
        | none => exact (longB_none hb j (by omega) hp).elim
    · rename_i hc
      obtain ⟨h1, h2⟩ := longB_some h
      refine ⟨h1, fun j hj hp => ?_⟩
      by_cases hjn : j = n
      · subst hjn
        by_cases hlt : (a.getD k default).text.length < (a.getD j default).text.length
        · exact absurd ⟨hp, fun k' hk' => by rw [h] at hk'; cases hk'; exact hlt⟩ hc
        · omega
      · exact h2 j (by omega) hp
theorem getM_zip : ∀ (ts : List (List UInt8)) (i : Nat) (t : List UInt8), (getM t (ts.zipIdx i) = none → t ∉ ts) ∧ (∀ k, getM t (ts.zipIdx i) = some k → i ≤ k ∧ ts[k - i]? = some t)
  | [], i, t => by simp [getM]
  | x :: r, i, t => by
    obtain ⟨h1, h2⟩ := getM_zip r (i + 1) t
    simp only [List.zipIdx_cons, getM]
    by_cases hx : x = t
    · rw [if_pos hx]
      refine ⟨fun h => (by cases h), fun k h => ?_⟩
      cases h
      simp [hx]
    · rw [if_neg hx]
      refine ⟨fun h => ?_, fun k h => ?_⟩
      · rw [List.mem_cons, not_or]
        exact ⟨fun e => hx e.symm, h1 h⟩
      · obtain ⟨h3, h4⟩ := h2 k h
        refine ⟨by omega, ?_⟩
        rw [show k - i = (k - (i + 1)) + 1 by omega, List.getElem?_cons_succ]
        exact h4
theorem mA_get {a : List Ltr} (hv : validF a = true) (t : List UInt8) : (getM t (mA a) = none → t ∉ texts a) ∧ (∀ k, getM t (mA a) = some k → (texts a)[k]? = some t) := by
  have hn := (validF_iff.1 hv).2.2.2
  have : mA a = (texts a).zipIdx 0 := by
    unfold mA
    rw [growM_nodup _ _ _ hn (by simp)]
    rfl
  rw [this]
  obtain ⟨h1, h2⟩ := getM_zip (texts a) 0 t
  exact ⟨h1, fun k h => (h2 k h).2⟩
theorem hitN_some {a : List Ltr} {s : List UInt8} {i m : Nat} : ∀ {n : Nat}, hitN a s n = some (i, m) → getM (s.take m) (mA a) = some i ∧ ∀ j, m < j → j ≤ n → getM (s.take j) (mA a) = none
  | 0, h => by simp [hitN] at h
  | n + 1, h => by
    unfold hitN at h
    split at h
    · rename_i k hk
      simp only [Option.some.injEq, Prod.mk.injEq] at h
      obtain ⟨rfl, rfl⟩ := h
      exact ⟨hk, fun j h1 h2 => by omega⟩
    · rename_i hk
      obtain ⟨h1, h2⟩ := hitN_some h
      refine ⟨h1, fun j h3 h4 => ?_⟩
      by_cases hj : j = n + 1
      · subst hj
        exact hk
      · exact h2 j h3 (by omega)
theorem hitN_none {a : List Ltr} {s : List UInt8} : ∀ {n : Nat}, hitN a s n = none → ∀ j, 1 ≤ j → j ≤ n → getM (s.take j) (mA a) = none
  | 0, _, j, h1, h2 => by omega
  | n + 1, h, j, h1, h2 => by
    unfold hitN at h
    split at h
    · cases h
    · rename_i hk
      by_cases hj : j = n + 1
      · subst hj
        exact hk
      · exact hitN_none h j h1 (by omega)
theorem texts_get {a : List Ltr} {k : Nat} {t : List UInt8} : (texts a)[k]? = some t → ∃ h : k < a.length, a[k].text = t := by
  intro h
  obtain ⟨h1, h2⟩ := List.getElem?_eq_some_iff.1 h
  have h3 : k < a.length := by simpa [texts] using h1
  refine ⟨h3, ?_⟩
  simpa [texts] using h2
theorem getD_lt {a : List Ltr} {k : Nat} (h : k < a.length) : a.getD k default = a[k] := by
  rw [List.getD_eq_getElem?_getD, List.getElem?_eq_getElem h]
  rfl
/-- What Read meets at the beginning is the letter with the longest text there. -/
theorem hit_long {a : List Ltr} (hv : validF a = true) (s : List UInt8) : (hit a s = none ∧ longB a s a.length = none) ∨ (∃ k n, hit a s = some (k, n) ∧ longB a s a.length = some k ∧ ∃ h : k < a.length, a[k].text = s.take n ∧ a[k].text.length = n ∧ n ≤ s.length) := by
  have hnd := (validF_iff.1 hv).2.2.2
  have pre : ∀ j (hj : j < a.length), a[j].text.isPrefixOf s = true → a[j].text = s.take a[j].text.length ∧ 1 ≤ a[j].text.length ∧ a[j].text.length ≤ min 4 s.length := by
    intro j hj hp
    obtain ⟨h1, h2⟩ := valid_text hv hj
    have h3 := List.isPrefixOf_iff_prefix.1 hp
    have h4 := h3.length_le
    have h5 : 1 ≤ a[j].text.length := List.length_pos_iff.2 h1
    exact ⟨List.prefix_iff_eq_take.1 h3, h5, by omega⟩
  have mem : ∀ j (hj : j < a.length), a[j].text ∈ texts a := fun j hj => List.mem_map.2 ⟨a[j], List.getElem_mem hj, rfl⟩
  cases hb : longB a s a.length with
  | none =>
    refine .inl ⟨?_, rfl⟩
    cases hh : hit a s with
    | none => rfl
    | some x =>
      exfalso
      obtain ⟨i, n⟩ := x
      have hle := hit_le hh
      obtain ⟨h1, h2⟩ := hitN_some (n := min 4 s.length) hh
      obtain ⟨h3, h4⟩ := texts_get ((mA_get hv _).2 i h1)
      refine longB_none hb i h3 ?_
      rw [getD_lt h3, h4, List.isPrefixOf_iff_prefix]
      exact List.take_prefix _ _
  | some k =>
    have hk := longB_lt hb
    obtain ⟨h1, h2⟩ := longB_some hb
    rw [getD_lt hk] at h1 h2
    obtain ⟨p1, p2, p3⟩ := pre k hk h1
    cases hh : hit a s with
    | none =>
      exfalso
      have := hitN_none (n := min 4 s.length) hh _ p2 p3
      rw [← p1] at this
      exact (mA_get hv _).1 this (mem k hk)
    | some x =>
      obtain ⟨i, n⟩ := x
      have hle := hit_le hh
      obtain ⟨q1, q2⟩ := hitN_some (n := min 4 s.length) hh
      obtain ⟨h3, h4⟩ := texts_get ((mA_get hv _).2 i q1)
      have h5 : a[i].text.length = n := by rw [h4, List.length_take]; omega
      have h6 : n ≤ a[k].text.length := by
        have := h2 i h3 (by
          rw [getD_lt h3, h4, List.isPrefixOf_iff_prefix]
          exact List.take_prefix _ _)
        rw [getD_lt h3, h5] at this
        exact this
      have h7 : ¬ n < a[k].text.length := fun hlt => by
        have := q2 _ hlt p3
        rw [← p1] at this
        exact (mA_get hv _).1 this (mem k hk)
      have h8 : a[k].text.length = n := by omega
      have h9 : a[i].text = a[k].text := by rw [h4, p1, h8]
      have h10 : i = k := by
        have e : (texts a)[i]'(by simpa [texts] using h3) = (texts a)[k]'(by simpa [texts] using hk) := by simpa [texts] using h9
        exact (List.getElem_inj hnd).1 e
      subst h10
      exact .inr ⟨i, n, rfl, rfl, h3, h4, h5, hle.2.2⟩
end Go.PM

namespace Go.PM
open Go.Proofs
attribute [local irreducible] W PCalls pcall pcallI WL
set_option maxRecDepth 100000
set_option maxHeartbeats 8000000
theorem HA_text {a : List Ltr} (hv : validF a = true) : ∀ x ∈ a, x.text.length ≤ 65536 := by
  intro x hx
  obtain ⟨j, hj, rfl⟩ := List.mem_iff_getElem.1 hx
  have := (valid_text hv hj).2
  omega
theorem rread_r (G : Globs) (a : List Ltr) (s : List UInt8) (ha : HA a) (hs : s.length ≤ 100000000) : PCalls Tryd.prog G 13 [ltsP a, pstr s] [] (fun res H => ∃ o, res = .tuple [o, pint .i64 (readF a s).2] ∧ CRI (readF a s).1 o H) := by
  have c1 := rvalid_c G a ha
  (refine PCalls_f Tryd.func13 rfl Tryd.ntmps13 Tryd.results13 (by simp) fun fin hfin => ?_; have hnm : True := trivial; simp (maxSteps := 2000000) (disch := omega) only [evb, evd, pbuiltin, constPV, pnck, seqK, blockK, scopeK, pbin, pun, ppick, plen, piaddr, pindex, pfield, pslice, pbound, pconv, pelems, pextract, pmm, PV.mem?, PV.one, PV.cells, pageq, peqs, peq1, pmakes, pstore, pbytes, pmark, pusd, pust, psrc, pkey, pnile, pcap, pgrow, List.set, Value.cells, ↓popG_eq, ↓pop.eq_1, ↓List.getElem?_map, ↓List.getElem?_cons_zero, ↓List.getElem?_cons_succ, Value.oneCell', Nat.reduceAdd, Nat.reduceMul, Nat.reduceSub, Nat.reduceLeDiff, Nat.reduceEqDiff, ↓reduceIte, ne_eq, reduceCtorEq, forall_const, exists_and_left, exists_eq_left', eq_self, Nat.reduceLT, Int.reduceLT, Int.reduceLE, Int.reduceToNat, Int.reduceAdd, Int.reduceSub, Int.reduceNeg, hnm, Tryd.tf0, Tryd.tf1, Tryd.tf3, Tryd.tf4, Tryd.tf9, Tryd.tf22, Tryd.tf23, Tryd.tf45, Tryd.teq45, Tryd.teq94, Tryd.teq104, Tryd.teq113, Tryd.teq114, Tryd.call34, Tryd.call35])
  repeat' (first
    | (with_reducible apply W_seq_k; intro nx hnx)
    | (with_reducible first | apply W_block | apply W_scope)
    | (with_reducible refine W_prune 499 ?_; simp only [prb, Nat.reducePow, Nat.reduceDiv, Nat.reduceMod, Nat.reduceBEq]; with_reducible apply W_region_l)
    | ((first | (with_reducible apply WL_op; intro nx hnx) | with_reducible refine Ev_out ?_ | (with_reducible refine pfresh_k hnm fun nm hnm => ?_; (try simp only [fmb] at hnm)) | (with_reducible refine pborn_mu hnm fun nm hnm => ?_; (try simp only [fmb] at hnm))); try (simp (maxSteps := 2000000) (disch := omega) only [evb, evd, pbuiltin, constPV, pnck, seqK, blockK, scopeK, pbin, pun, ppick, plen, piaddr, pindex, pfield, pslice, pbound, pconv, pelems, pextract, pmm, PV.mem?, PV.one, PV.cells, pageq, peqs, peq1, pmakes, pstore, pbytes, pmark, pusd, pust, psrc, pkey, pnile, pcap, pgrow, List.set, Value.cells, ↓popG_eq, ↓pop.eq_1, ↓List.getElem?_map, ↓List.getElem?_cons_zero, ↓List.getElem?_cons_succ, Value.oneCell', Nat.reduceAdd, Nat.reduceMul, Nat.reduceSub, Nat.reduceLeDiff, Nat.reduceEqDiff, ↓reduceIte, ne_eq, reduceCtorEq, forall_const, exists_and_left, exists_eq_left', eq_self, Nat.reduceLT, Int.reduceLT, Int.reduceLE, Int.reduceToNat, Int.reduceAdd, Int.reduceSub, Int.reduceNeg, hnm, Tryd.tf0, Tryd.tf1, Tryd.tf3, Tryd.tf4, Tryd.tf9, Tryd.tf22, Tryd.tf23, Tryd.tf45, Tryd.teq45, Tryd.teq94, Tryd.teq104, Tryd.teq113, Tryd.teq114, Tryd.call34, Tryd.call35]); repeat (refine And.intro (by omega) ?_))
    | ((with_reducible first | apply WL_nil | apply W_label | apply W_skip | apply W_exit | apply W_ret); try simp only [seqK, blockK, scopeK, ↓reduceIte, Nat.reduceEqDiff])
    | (with_reducible apply W_cond_k; intro _ _ ea eb; (simp only [condK, cob, opnd, constPV, Nat.reduceEqDiff, Nat.reduceLT, ↓reduceIte, hcb, reduceCtorEq, forall_const, ne_eq]); subst ea eb; first | (refine ⟨fun hc => ?_, fun hc => ?_⟩ <;> first | (exfalso; omega) | (exfalso; exact hc trivial) | skip) | skip)
    | (with_reducible apply hnx; clear hnx nx)
    | (with_reducible refine And.intro (by omega) ?_)
    | (with_reducible refine And.intro ?_ ?_)
    | (with_reducible refine pcall_k (c1) ?_; rintro _ _ ⟨rfl, rfl⟩ -; refine Ev_in ?_)
    | (clear hnx nx; with_reducible apply hnx; clear hnx nx)
    | (clear hnx nx; clear hnx nx; with_reducible apply hnx; clear hnx nx)
    | (clear hnx nx; clear hnx nx; clear hnx nx; with_reducible apply hnx; clear hnx nx))
  all_goals first | exact absurd trivial hc | contradiction | exact fun h => False.elim h | (exfalso; omega) | (exfalso; have hc := of_decide_eq_false hc; omega) | (exfalso; simp only [Bool.not_false, Bool.not_true, decide_eq_true_eq, decide_eq_false_iff_not] at *; omega) | skip
  · have hv : validF a = false := by simpa using hc
    refine hfin _ _ (Fin_ret2 rfl rfl (Sub_nil _) ?_); simp only [List.getD_cons_zero, List.getD_cons_succ, fr_getD_cons, fr_getD_nil, Nat.reduceEqDiff, Nat.reduceLT, ↓reduceIte]
    refine ⟨pnil, ?_, .inl ⟨?_, rfl, by trivial⟩⟩ <;> simp [readF, hv]
  have hv : validF a = true := by simpa using hc
  have hal := (validF_iff.1 hv).2.1
  refine W_loop_k (fun z τ => ∃ (p f : Nat) (out : List Int) (o : PV) (HO : Heap), p ≤ s.length ∧ z = s.length - p ∧ s.length - p ≤ f ∧ out.length ≤ p ∧ (readW a s.length s).1 = out ++ (readW a f (s.drop p)).1 ∧ (readW a s.length s).2 = p + (readW a f (s.drop p)).2 ∧ CRI out o HO ∧ τ = ⟨fr 37 [(7, pn p), (6, o), (1, pstr s), (0, ltsP a)], HO⟩) s.length
    ⟨fr 37 [(7, pn 0), (6, pnil), (1, pstr s), (0, ltsP a)], []⟩ (by
    exact Wk_fr (by simp only [wkb, Nat.reduceEqDiff, Nat.reduceLT, ↓reduceIte, pn]) (Sub_nil _)) ⟨0, s.length, [], _, _, by omega, by omega, by omega, by simp, by simp, by simp, .inl ⟨rfl, rfl, rfl⟩, rfl⟩ ?_
  rintro z τ ⟨p, f, out, o, HO, hp, rfl, hf, hol, hr1, hr2, hC, rfl⟩ lp hlp
  refine W_nd fun nd => ?_
  by_cases hps : p < s.length
  · obtain ⟨f', rfl⟩ : ∃ f', f = f' + 1 := ⟨f - 1, by omega⟩
    have cl := longest_c G a s p hp hs (by omega) (HA_text hv)
    rcases hit_long hv (s.drop p) with ⟨hh, hb⟩ | ⟨k, n, hh, hb, hk, h1, h2, h3⟩
    · have hli : longI a (s.drop p) a.length = -1 := by rw [longI, hb]
      rw [hli] at cl
      repeat' (first
    | (with_reducible apply W_seq_k; intro nx hnx)
    | (with_reducible first | apply W_block | apply W_scope)
    | (with_reducible refine W_prune 499 ?_; simp only [prb, Nat.reducePow, Nat.reduceDiv, Nat.reduceMod, Nat.reduceBEq]; with_reducible apply W_region_l)
    | ((first | (with_reducible apply WL_op; intro nx hnx) | with_reducible refine Ev_out ?_ | (with_reducible refine pfresh_k hnm fun nm hnm => ?_; (try simp only [fmb] at hnm)) | (with_reducible refine pborn_mu hnm fun nm hnm => ?_; (try simp only [fmb] at hnm))); try (simp (maxSteps := 2000000) (disch := omega) only [evb, evd, pbuiltin, constPV, pnck, seqK, blockK, scopeK, pbin, pun, ppick, plen, piaddr, pindex, pfield, pslice, pbound, pconv, pelems, pextract, pmm, PV.mem?, PV.one, PV.cells, pageq, peqs, peq1, pmakes, pstore, pbytes, pmark, pusd, pust, psrc, pkey, pnile, pcap, pgrow, List.set, Value.cells, ↓popG_eq, ↓pop.eq_1, ↓List.getElem?_map, ↓List.getElem?_cons_zero, ↓List.getElem?_cons_succ, Value.oneCell', Nat.reduceAdd, Nat.reduceMul, Nat.reduceSub, Nat.reduceLeDiff, Nat.reduceEqDiff, ↓reduceIte, ne_eq, reduceCtorEq, forall_const, exists_and_left, exists_eq_left', eq_self, Nat.reduceLT, Int.reduceLT, Int.reduceLE, Int.reduceToNat, Int.reduceAdd, Int.reduceSub, Int.reduceNeg, hnm, Tryd.tf0, Tryd.tf1, Tryd.tf3, Tryd.tf4, Tryd.tf9, Tryd.tf22, Tryd.tf23, Tryd.tf45, Tryd.teq45, Tryd.teq94, Tryd.teq104, Tryd.teq113, Tryd.teq114, Tryd.call34, Tryd.call35]); repeat (refine And.intro (by omega) ?_))
    | ((with_reducible first | apply WL_nil | apply W_label | apply W_skip | apply W_exit | apply W_ret); try simp only [seqK, blockK, scopeK, ↓reduceIte, Nat.reduceEqDiff])
    | (with_reducible apply W_cond_k; intro _ _ ea eb; (simp only [condK, cob, opnd, constPV, Nat.reduceEqDiff, Nat.reduceLT, ↓reduceIte, hcb, reduceCtorEq, forall_const, ne_eq]); subst ea eb; first | (refine ⟨fun hc => ?_, fun hc => ?_⟩ <;> first | (exfalso; omega) | (exfalso; exact hc trivial) | skip) | skip)
    | (with_reducible apply hnx; clear hnx nx)
    | (with_reducible refine And.intro (by omega) ?_)
    | (with_reducible refine And.intro ?_ ?_)
    | (with_reducible refine pcall_k (cl) ?_; rintro _ _ ⟨rfl, rfl⟩ -; refine Ev_in ?_)
    | (clear hnx nx; with_reducible apply hnx; clear hnx nx)
    | (clear hnx nx; clear hnx nx; with_reducible apply hnx; clear hnx nx)
    | (clear hnx nx; clear hnx nx; clear hnx nx; with_reducible apply hnx; clear hnx nx))
      all_goals first | exact absurd trivial hc | contradiction | exact fun h => False.elim h | (exfalso; omega) | (exfalso; have hc := of_decide_eq_false hc; omega) | (exfalso; simp only [Bool.not_false, Bool.not_true, decide_eq_true_eq, decide_eq_false_iff_not] at *; omega) | skip
      have e : readW a (f' + 1) (s.drop p) = ([], 0) := by
        unfold readW
        rw [hh]
      rw [e] at hr1 hr2
      have e2 : readF a s = (out, (p : Int)) := by
        simp [readF, hv, hr1, hr2, Nat.ne_of_lt hps]
      refine hfin _ _ (Fin_ret2 rfl rfl (H := HO) (Sub_refl nd) ?_)
      simp only [fr_getD_cons, Nat.reduceEqDiff, Nat.reduceLT, ↓reduceIte]
      rw [e2]
      exact ⟨o, rfl, hC⟩
    · have hli : longI a (s.drop p) a.length = k := by rw [longI, hb]
      rw [hli] at cl
      have hgk : a[k]? = some a[k] := List.getElem?_eq_getElem hk
      have hpos := hit_le hh
      rw [List.length_drop] at h3 hpos
      have e : readW a (f' + 1) (s.drop p) = ((k : Int) :: (readW a f' (s.drop (p + n))).1, n + (readW a f' (s.drop (p + n))).2) := by
        rw [readW_hit hh, List.drop_drop]
      rw [e] at hr1 hr2
      have hr1 : (readW a s.length s).1 = (out ++ [(k : Int)]) ++ (readW a f' (s.drop (p + n))).1 := by rw [hr1]; simp
      have hr2 : (readW a s.length s).2 = (p + n) + (readW a f' (s.drop (p + n))).2 := by rw [hr2]; omega
      rcases hC with ⟨rfl, rfl, rfl⟩ | ⟨nn, rfl, rfl⟩
      · repeat' (first
    | (with_reducible apply W_seq_k; intro nx hnx)
    | (with_reducible first | apply W_block | apply W_scope)
    | (with_reducible refine W_prune 499 ?_; simp only [prb, Nat.reducePow, Nat.reduceDiv, Nat.reduceMod, Nat.reduceBEq]; with_reducible apply W_region_l)
    | ((first | (with_reducible apply WL_op; intro nx hnx) | with_reducible refine Ev_out ?_ | (with_reducible refine pfresh_k hnm fun nm hnm => ?_; (try simp only [fmb] at hnm)) | (with_reducible refine pborn_mu hnm fun nm hnm => ?_; (try simp only [fmb] at hnm))); try (simp (maxSteps := 2000000) (disch := omega) only [evb, evd, pbuiltin, constPV, pnck, seqK, blockK, scopeK, pbin, pun, ppick, plen, piaddr, pindex, pfield, pslice, pbound, pconv, pelems, pextract, pmm, PV.mem?, PV.one, PV.cells, pageq, peqs, peq1, pmakes, pstore, pbytes, pmark, pusd, pust, psrc, pkey, pnile, pcap, pgrow, List.set, Value.cells, ↓popG_eq, ↓pop.eq_1, ↓List.getElem?_map, ↓List.getElem?_cons_zero, ↓List.getElem?_cons_succ, Value.oneCell', Nat.reduceAdd, Nat.reduceMul, Nat.reduceSub, Nat.reduceLeDiff, Nat.reduceEqDiff, ↓reduceIte, ne_eq, reduceCtorEq, forall_const, exists_and_left, exists_eq_left', eq_self, Nat.reduceLT, Int.reduceLT, Int.reduceLE, Int.reduceToNat, Int.reduceAdd, Int.reduceSub, Int.reduceNeg, hnm, Tryd.tf0, Tryd.tf1, Tryd.tf3, Tryd.tf4, Tryd.tf9, Tryd.tf22, Tryd.tf23, Tryd.tf45, Tryd.teq45, Tryd.teq94, Tryd.teq104, Tryd.teq113, Tryd.teq114, Tryd.call34, Tryd.call35, hgk, h2]); repeat (refine And.intro (by omega) ?_))
    | ((with_reducible first | apply WL_nil | apply W_label | apply W_skip | apply W_exit | apply W_ret); try simp only [seqK, blockK, scopeK, ↓reduceIte, Nat.reduceEqDiff])
    | (with_reducible apply W_cond_k; intro _ _ ea eb; (simp only [condK, cob, opnd, constPV, Nat.reduceEqDiff, Nat.reduceLT, ↓reduceIte, hcb, reduceCtorEq, forall_const, ne_eq]); subst ea eb; first | (refine ⟨fun hc => ?_, fun hc => ?_⟩ <;> first | (exfalso; omega) | (exfalso; exact hc trivial) | skip) | skip)
    | (with_reducible apply hnx; clear hnx nx)
    | (with_reducible refine And.intro (by omega) ?_)
    | (with_reducible refine And.intro ?_ ?_)
    | (with_reducible refine pcall_k (cl) ?_; rintro _ _ ⟨rfl, rfl⟩ -; refine Ev_in ?_)
    | (clear hnx nx; with_reducible apply hnx; clear hnx nx)
    | (clear hnx nx; clear hnx nx; with_reducible apply hnx; clear hnx nx)
    | (clear hnx nx; clear hnx nx; clear hnx nx; with_reducible apply hnx; clear hnx nx))
        all_goals first | exact absurd trivial hc | contradiction | exact fun h => False.elim h | (exfalso; omega) | (exfalso; have hc := of_decide_eq_false hc; omega) | (exfalso; simp only [Bool.not_false, Bool.not_true, decide_eq_true_eq, decide_eq_false_iff_not] at *; omega) | skip
        refine hlp _ (s.length - (p + n)) ⟨fr 37 [(7, pn (p + n)), (6, .row nm 1 1), (1, pstr s), (0, ltsP a)], [(nm, ⟨3, true, 1, [pn k]⟩)]⟩ (by omega) ?_ ⟨p + n, f', [(k : Int)], _, _, by omega, rfl, by omega, by simp; omega, hr1, hr2, .inr ⟨nm, rfl, rfl⟩, rfl⟩
        refine Wk_fr (by simp only [wkb, Nat.reduceEqDiff, Nat.reduceLT, ↓reduceIte, pn, Int.natCast_add]) ?_
        all_goals
          (try rw [List.map_append])
          refine ⟨fun x hx => ?_, by simp [names, hnm]⟩
          simp only [List.mem_cons, List.not_mem_nil, or_false] at hx ⊢
          first
            | exact hx
            | exact .inl hx
      · repeat' (first
    | (with_reducible apply W_seq_k; intro nx hnx)
    | (with_reducible first | apply W_block | apply W_scope)
    | (with_reducible refine W_prune 499 ?_; simp only [prb, Nat.reducePow, Nat.reduceDiv, Nat.reduceMod, Nat.reduceBEq]; with_reducible apply W_region_l)
    | ((first | (with_reducible apply WL_op; intro nx hnx) | with_reducible refine Ev_out ?_ | (with_reducible refine pfresh_k hnm fun nm hnm => ?_; (try simp only [fmb] at hnm)) | (with_reducible refine pborn_mu hnm fun nm hnm => ?_; (try simp only [fmb] at hnm))); try (simp (maxSteps := 2000000) (disch := omega) only [evb, evd, pbuiltin, constPV, pnck, seqK, blockK, scopeK, pbin, pun, ppick, plen, piaddr, pindex, pfield, pslice, pbound, pconv, pelems, pextract, pmm, PV.mem?, PV.one, PV.cells, pageq, peqs, peq1, pmakes, pstore, pbytes, pmark, pusd, pust, psrc, pkey, pnile, pcap, pgrow, List.set, Value.cells, ↓popG_eq, ↓pop.eq_1, ↓List.getElem?_map, ↓List.getElem?_cons_zero, ↓List.getElem?_cons_succ, Value.oneCell', Nat.reduceAdd, Nat.reduceMul, Nat.reduceSub, Nat.reduceLeDiff, Nat.reduceEqDiff, ↓reduceIte, ne_eq, reduceCtorEq, forall_const, exists_and_left, exists_eq_left', eq_self, Nat.reduceLT, Int.reduceLT, Int.reduceLE, Int.reduceToNat, Int.reduceAdd, Int.reduceSub, Int.reduceNeg, hnm, Tryd.tf0, Tryd.tf1, Tryd.tf3, Tryd.tf4, Tryd.tf9, Tryd.tf22, Tryd.tf23, Tryd.tf45, Tryd.teq45, Tryd.teq94, Tryd.teq104, Tryd.teq113, Tryd.teq114, Tryd.call34, Tryd.call35, hgk, h2]); repeat (refine And.intro (by omega) ?_))
    | ((with_reducible first | apply WL_nil | apply W_label | apply W_skip | apply W_exit | apply W_ret); try simp only [seqK, blockK, scopeK, ↓reduceIte, Nat.reduceEqDiff])
    | (with_reducible apply W_cond_k; intro _ _ ea eb; (simp only [condK, cob, opnd, constPV, Nat.reduceEqDiff, Nat.reduceLT, ↓reduceIte, hcb, reduceCtorEq, forall_const, ne_eq]); subst ea eb; first | (refine ⟨fun hc => ?_, fun hc => ?_⟩ <;> first | (exfalso; omega) | (exfalso; exact hc trivial) | skip) | skip)
    | (with_reducible apply hnx; clear hnx nx)
    | (with_reducible refine And.intro (by omega) ?_)
    | (with_reducible refine And.intro ?_ ?_)
    | (with_reducible refine pcall_k (cl) ?_; rintro _ _ ⟨rfl, rfl⟩ -; refine Ev_in ?_)
    | (clear hnx nx; with_reducible apply hnx; clear hnx nx)
    | (clear hnx nx; clear hnx nx; with_reducible apply hnx; clear hnx nx)
    | (clear hnx nx; clear hnx nx; clear hnx nx; with_reducible apply hnx; clear hnx nx))
        all_goals first | exact absurd trivial hc | contradiction | exact fun h => False.elim h | (exfalso; omega) | (exfalso; have hc := of_decide_eq_false hc; omega) | (exfalso; simp only [Bool.not_false, Bool.not_true, decide_eq_true_eq, decide_eq_false_iff_not] at *; omega) | skip
        have hl1 : (out ++ [(k : Int)]).length = out.length + 1 := by simp
        refine hlp _ (s.length - (p + n)) ⟨fr 37 [(7, pn (p + n)), (6, .row nm 1 (out ++ [(k : Int)]).length), (1, pstr s), (0, ltsP a)], [(nm, ⟨3, true, 1, (out ++ [(k : Int)]).map (pint .i64)⟩)]⟩ (by omega) ?_ ⟨p + n, f', out ++ [(k : Int)], _, _, by omega, rfl, by omega, by simp; omega, hr1, hr2, .inr ⟨nm, rfl, rfl⟩, rfl⟩
        refine Wk_fr (by simp only [wkb, Nat.reduceEqDiff, Nat.reduceLT, ↓reduceIte, pn, Int.natCast_add, hl1]) ?_
        all_goals
          (try rw [List.map_append])
          refine ⟨fun x hx => ?_, by simp [names, hnm]⟩
          simp only [List.mem_cons, List.not_mem_nil, or_false] at hx ⊢
          first
            | exact hx
            | exact .inl hx
  · have hi2 : p = s.length := by omega
    subst hi2
    rw [List.drop_length, readW_nil] at hr1 hr2
    repeat' (first
    | (with_reducible apply W_seq_k; intro nx hnx)
    | (with_reducible first | apply W_block | apply W_scope)
    | (with_reducible refine W_prune 499 ?_; simp only [prb, Nat.reducePow, Nat.reduceDiv, Nat.reduceMod, Nat.reduceBEq]; with_reducible apply W_region_l)
    | ((first | (with_reducible apply WL_op; intro nx hnx) | with_reducible refine Ev_out ?_ | (with_reducible refine pfresh_k hnm fun nm hnm => ?_; (try simp only [fmb] at hnm)) | (with_reducible refine pborn_mu hnm fun nm hnm => ?_; (try simp only [fmb] at hnm))); try (simp (maxSteps := 2000000) (disch := omega) only [evb, evd, pbuiltin, constPV, pnck, seqK, blockK, scopeK, pbin, pun, ppick, plen, piaddr, pindex, pfield, pslice, pbound, pconv, pelems, pextract, pmm, PV.mem?, PV.one, PV.cells, pageq, peqs, peq1, pmakes, pstore, pbytes, pmark, pusd, pust, psrc, pkey, pnile, pcap, pgrow, List.set, Value.cells, ↓popG_eq, ↓pop.eq_1, ↓List.getElem?_map, ↓List.getElem?_cons_zero, ↓List.getElem?_cons_succ, Value.oneCell', Nat.reduceAdd, Nat.reduceMul, Nat.reduceSub, Nat.reduceLeDiff, Nat.reduceEqDiff, ↓reduceIte, ne_eq, reduceCtorEq, forall_const, exists_and_left, exists_eq_left', eq_self, Nat.reduceLT, Int.reduceLT, Int.reduceLE, Int.reduceToNat, Int.reduceAdd, Int.reduceSub, Int.reduceNeg, hnm, Tryd.tf0, Tryd.tf1, Tryd.tf3, Tryd.tf4, Tryd.tf9, Tryd.tf22, Tryd.tf23, Tryd.tf45, Tryd.teq45, Tryd.teq94, Tryd.teq104, Tryd.teq113, Tryd.teq114, Tryd.call34, Tryd.call35]); repeat (refine And.intro (by omega) ?_))
    | ((with_reducible first | apply WL_nil | apply W_label | apply W_skip | apply W_exit | apply W_ret); try simp only [seqK, blockK, scopeK, ↓reduceIte, Nat.reduceEqDiff])
    | (with_reducible apply W_cond_k; intro _ _ ea eb; (simp only [condK, cob, opnd, constPV, Nat.reduceEqDiff, Nat.reduceLT, ↓reduceIte, hcb, reduceCtorEq, forall_const, ne_eq]); subst ea eb; first | (refine ⟨fun hc => ?_, fun hc => ?_⟩ <;> first | (exfalso; omega) | (exfalso; exact hc trivial) | skip) | skip)
    | (with_reducible apply hnx; clear hnx nx)
    | (with_reducible refine And.intro (by omega) ?_)
    | (with_reducible refine And.intro ?_ ?_)
    | (clear hnx nx; with_reducible apply hnx; clear hnx nx)
    | (clear hnx nx; clear hnx nx; with_reducible apply hnx; clear hnx nx)
    | (clear hnx nx; clear hnx nx; clear hnx nx; with_reducible apply hnx; clear hnx nx))
    all_goals first | exact absurd trivial hc | contradiction | exact fun h => False.elim h | (exfalso; omega) | (exfalso; have hc := of_decide_eq_false hc; omega) | (exfalso; simp only [Bool.not_false, Bool.not_true, decide_eq_true_eq, decide_eq_false_iff_not] at *; omega) | skip
    have e2 : readF a s = (out, -1) := by
      simp only [List.append_nil, Nat.add_zero] at hr1 hr2
      simp [readF, hv, hr1, hr2]
    refine hfin _ _ (Fin_ret2 rfl rfl (H := HO) (Sub_refl nd) ?_)
    simp only [fr_getD_cons, Nat.reduceEqDiff, Nat.reduceLT, ↓reduceIte]
    rw [e2]
    exact ⟨o, rfl, hC⟩
theorem rread_f (G : Globs) (a : List Ltr) (s : List UInt8) (ha : HA a) (hs : s.length ≤ 100000000) : PCalls Tryd.prog G 13 [ltsP a, pstr s] [] (fun res H => res = .tuple [wP (readF a s).1, pint .i64 (readF a s).2] ∧ H = []) := CRI.frz2 (rread_r G a s ha hs)
end Go.PM

namespace Go.PM
open Go.Proofs
attribute [local irreducible] W PCalls pcall pcallI WL
set_option maxRecDepth 100000
set_option maxHeartbeats 8000000
theorem letters_text {l : List Int} : ∀ x ∈ lettersF l, x.text.length ≤ 4 := by
  intro x hx
  obtain ⟨j, hj, rfl⟩ := List.mem_iff_getElem.1 hx
  exact (valid_text (letters_valid l) hj).2
theorem law3 (G : Globs) (l k : List Int) (raw : List UInt8) (hl : okI l) (hk : okI k) (hr : (raw.length : Int) ≤ 140737488355328) : PCalls Tryd.prog G 3 [wP l, wP k, pstr raw] [] (fun res H => res = pbool true ∧ H = []) := by
  have hv := letters_valid l
  have hA := valid_HA hv
  have hn := lettersF_len l
  have c1 := letters_c G l hl
  have c2 := textM_c G (lettersF l) k (by omega) (by omega) letters_text hk
  have ht := textM_len (letters_text (l := l)) (k.take 40)
  rw [List.length_take] at ht
  have htl : (textM (lettersF l) k).length ≤ 160 := by
    unfold textM
    omega
  generalize lettersF l = a at *
  generalize textM a k = t at *
  have c9 := lives_c G
  (refine PCalls_f Tryd.func3 rfl Tryd.ntmps3 Tryd.results3 (by simp) fun fin hfin => ?_; have hnm : True := trivial; simp (maxSteps := 2000000) (disch := omega) only [evb, evd, pbuiltin, constPV, pnck, seqK, blockK, scopeK, pbin, pun, ppick, plen, piaddr, pindex, pfield, pslice, pbound, pconv, pelems, pextract, pmm, PV.mem?, PV.one, PV.cells, pageq, peqs, peq1, pmakes, pstore, pbytes, pmark, pusd, pust, psrc, pkey, pnile, pcap, pgrow, List.set, Value.cells, ↓popG_eq, ↓pop.eq_1, ↓List.getElem?_map, ↓List.getElem?_cons_zero, ↓List.getElem?_cons_succ, Value.oneCell', Nat.reduceAdd, Nat.reduceMul, Nat.reduceSub, Nat.reduceLeDiff, Nat.reduceEqDiff, ↓reduceIte, ne_eq, reduceCtorEq, forall_const, exists_and_left, exists_eq_left', eq_self, Nat.reduceLT, Int.reduceLT, Int.reduceLE, Int.reduceToNat, Int.reduceAdd, Int.reduceSub, Int.reduceNeg, hnm, Tryd.tf0, Tryd.tf1, Tryd.tf3, Tryd.tf4, Tryd.tf9, Tryd.tf22, Tryd.tf23, Tryd.tf26, Tryd.tf28, Tryd.tf45, Tryd.teq45, Tryd.teq94, Tryd.teq104, Tryd.teq113, Tryd.teq114, Tryd.call9, Tryd.call10, Tryd.call11, Tryd.call12, Tryd.call13, Tryd.call14, Tryd.call15])
  repeat' (first
    | (with_reducible apply W_seq_k; intro nx hnx)
    | (with_reducible first | apply W_block | apply W_scope)
    | (with_reducible refine W_prune 32711 ?_; simp only [prb, Nat.reducePow, Nat.reduceDiv, Nat.reduceMod, Nat.reduceBEq]; with_reducible apply W_region_l)
    | (with_reducible refine WL_born (by simp) rfl (by simp) ?_; simp only [elemsOf, nl, List.map_cons, List.map_nil, Nat.reduceEqDiff, ↓reduceIte, List.take_succ_cons, List.take_zero, List.range_succ, List.range_zero, List.nil_append, List.cons_append, List.map_append, List.drop_succ_cons, List.drop_zero, Nat.reduceMul, Nat.zero_mul, Nat.one_mul, Nat.reduceAdd])
    | (with_reducible refine WL_bornH (by simp) (by simp) ?_ ?_ ?_; (· simp [frz, frz1, hnm]); (· simp [frz1, hnm, PV.one, Value.oneCell']); simp only [elemsOf, nl, List.map_cons, List.map_nil, Nat.reduceEqDiff, ↓reduceIte, List.take_succ_cons, List.take_zero, List.range_succ, List.range_zero, List.nil_append, List.cons_append, List.map_append, List.drop_succ_cons, List.drop_zero, Nat.reduceMul, Nat.zero_mul, Nat.one_mul, Nat.reduceAdd])
    | ((first | (with_reducible apply WL_op; intro nx hnx) | with_reducible refine Ev_out ?_ | (with_reducible refine pfresh_k hnm fun nm hnm => ?_; (try simp only [fmb] at hnm)) | (with_reducible refine pborn_im ?_; simp only [elemsOf, nl, List.map_cons, List.map_nil, Nat.reduceEqDiff, ↓reduceIte, List.take_succ_cons, List.take_zero, List.range_succ, List.range_zero, List.nil_append, List.cons_append, List.map_append, List.drop_succ_cons, List.drop_zero, Nat.reduceMul, Nat.zero_mul, Nat.one_mul, Nat.reduceAdd])); try (simp (maxSteps := 2000000) (disch := omega) only [evb, evd, pbuiltin, constPV, pnck, seqK, blockK, scopeK, pbin, pun, ppick, plen, piaddr, pindex, pfield, pslice, pbound, pconv, pelems, pextract, pmm, PV.mem?, PV.one, PV.cells, pageq, peqs, peq1, pmakes, pstore, pbytes, pmark, pusd, pust, psrc, pkey, pnile, pcap, pgrow, List.set, Value.cells, ↓popG_eq, ↓pop.eq_1, ↓List.getElem?_map, ↓List.getElem?_cons_zero, ↓List.getElem?_cons_succ, Value.oneCell', Nat.reduceAdd, Nat.reduceMul, Nat.reduceSub, Nat.reduceLeDiff, Nat.reduceEqDiff, ↓reduceIte, ne_eq, reduceCtorEq, forall_const, exists_and_left, exists_eq_left', eq_self, Nat.reduceLT, Int.reduceLT, Int.reduceLE, Int.reduceToNat, Int.reduceAdd, Int.reduceSub, Int.reduceNeg, hnm, Tryd.tf0, Tryd.tf1, Tryd.tf3, Tryd.tf4, Tryd.tf9, Tryd.tf22, Tryd.tf23, Tryd.tf26, Tryd.tf28, Tryd.tf45, Tryd.teq45, Tryd.teq94, Tryd.teq104, Tryd.teq113, Tryd.teq114, Tryd.call9, Tryd.call10, Tryd.call11, Tryd.call12, Tryd.call13, Tryd.call14, Tryd.call15]); repeat (refine And.intro (by omega) ?_))
    | ((with_reducible first | apply WL_nil | apply W_label | apply W_skip | apply W_exit | apply W_ret); try simp only [seqK, blockK, scopeK, ↓reduceIte, Nat.reduceEqDiff])
    | (with_reducible apply pguard_intro <;> (intro hc; (try simp only [hcb, reduceCtorEq, forall_const, ne_eq] at hc); first | (exfalso; omega) | (exfalso; exact hc trivial) | refine Ev_in ?_))
    | (with_reducible apply W_cond_k; intro _ _ ea eb; (simp only [condK, cob, opnd, constPV, Nat.reduceEqDiff, Nat.reduceLT, ↓reduceIte, hcb, reduceCtorEq, forall_const, ne_eq]); subst ea eb; first | (refine ⟨fun hc => ?_, fun hc => ?_⟩ <;> first | (exfalso; omega) | (exfalso; exact hc trivial) | skip) | skip)
    | (with_reducible apply hnx; clear hnx nx)
    | (with_reducible refine And.intro (by omega) ?_)
    | (with_reducible refine And.intro ?_ ?_)
    | (with_reducible refine pcall_k (c1) ?_; rintro _ _ ⟨rfl, rfl⟩ -; refine Ev_in ?_)
    | (with_reducible refine pcall_k (c2) ?_; rintro _ _ ⟨rfl, rfl⟩ -; refine Ev_in ?_)
    | (clear hnx nx; with_reducible apply hnx; clear hnx nx)
    | (clear hnx nx; clear hnx nx; with_reducible apply hnx; clear hnx nx)
    | (clear hnx nx; clear hnx nx; clear hnx nx; with_reducible apply hnx; clear hnx nx))
  all_goals first | exact absurd trivial hc | contradiction | exact fun h => False.elim h | (exfalso; omega) | (exfalso; have hc := of_decide_eq_false hc; omega) | (exfalso; simp only [Bool.not_false, Bool.not_true, decide_eq_true_eq, decide_eq_false_iff_not] at *; omega) | skip
  obtain ⟨L, hL⟩ : ∃ L, L = [t, raw, t ++ raw, []] := ⟨_, rfl⟩
  have hLl : L.length = 4 := by rw [hL]; rfl
  have eL : [pstr t, pstr raw, pstr (t ++ raw), PV.val (.string ⟨#[]⟩)] = L.map pstr := by rw [hL]; rfl
  refine W_loop_k (fun z τ => ∃ (i : Nat), i ≤ 4 ∧ z = 4 - i ∧ τ = ⟨fr 60 [(9, pn i), (8, .list 1 (L.map pstr)), (7, ltsP a)], []⟩) 4
    ⟨fr 60 [(9, pn 0), (8, .list 1 (L.map pstr)), (7, ltsP a)], []⟩ (by
    exact Wk_fr (by simp only [wkb, Nat.reduceEqDiff, Nat.reduceLT, ↓reduceIte, pn, eL]) (Sub_nil _)) ⟨0, by omega, by omega, rfl⟩ ?_
  rintro z τ ⟨i, hi, rfl, rfl⟩ lp hlp
  by_cases hil : i < 4
  · have hgi : L[i]? = some L[i] := List.getElem?_eq_getElem (by omega)
    have cs := short_c G L[i] 300 (by omega)
    obtain ⟨s, hs⟩ : ∃ s, s = L[i].take 300 := ⟨_, rfl⟩
    rw [← hs] at cs
    have hsl : s.length ≤ 300 := by rw [hs, List.length_take]; omega
    have cs : PCalls Tryd.prog G 11 [pstr L[i], .val (.int .i64 300)] [] _ := cs
    have d1 := read_f G a s hA (by omega)
    have d2 := rread_f G a s hA (by omega)
    have d3 := sameInts_c G (readF a s).1 (readF a s).1 (by have := readF_len (a := a) (s := s); omega)
    repeat' (first
    | (with_reducible apply W_seq_k; intro nx hnx)
    | (with_reducible first | apply W_block | apply W_scope)
    | (with_reducible refine W_prune 32711 ?_; simp only [prb, Nat.reducePow, Nat.reduceDiv, Nat.reduceMod, Nat.reduceBEq]; with_reducible apply W_region_l)
    | ((first | (with_reducible apply WL_op; intro nx hnx) | with_reducible refine Ev_out ?_ | (with_reducible refine pfresh_k hnm fun nm hnm => ?_; (try simp only [fmb] at hnm)) | (with_reducible refine pborn_mu hnm fun nm hnm => ?_; (try simp only [fmb] at hnm))); try (simp (maxSteps := 2000000) (disch := omega) only [evb, evd, pbuiltin, constPV, pnck, seqK, blockK, scopeK, pbin, pun, ppick, plen, piaddr, pindex, pfield, pslice, pbound, pconv, pelems, pextract, pmm, PV.mem?, PV.one, PV.cells, pageq, peqs, peq1, pmakes, pstore, pbytes, pmark, pusd, pust, psrc, pkey, pnile, pcap, pgrow, List.set, Value.cells, ↓popG_eq, ↓pop.eq_1, ↓List.getElem?_map, ↓List.getElem?_cons_zero, ↓List.getElem?_cons_succ, Value.oneCell', Nat.reduceAdd, Nat.reduceMul, Nat.reduceSub, Nat.reduceLeDiff, Nat.reduceEqDiff, ↓reduceIte, ne_eq, reduceCtorEq, forall_const, exists_and_left, exists_eq_left', eq_self, Nat.reduceLT, Int.reduceLT, Int.reduceLE, Int.reduceToNat, Int.reduceAdd, Int.reduceSub, Int.reduceNeg, hnm, Tryd.tf0, Tryd.tf1, Tryd.tf3, Tryd.tf4, Tryd.tf9, Tryd.tf22, Tryd.tf23, Tryd.tf26, Tryd.tf28, Tryd.tf45, Tryd.teq45, Tryd.teq94, Tryd.teq104, Tryd.teq113, Tryd.teq114, Tryd.call9, Tryd.call10, Tryd.call11, Tryd.call12, Tryd.call13, Tryd.call14, Tryd.call15, hgi, hLl]); repeat (refine And.intro (by omega) ?_))
    | ((with_reducible first | apply WL_nil | apply W_label | apply W_skip | apply W_exit | apply W_ret); try simp only [seqK, blockK, scopeK, ↓reduceIte, Nat.reduceEqDiff])
    | (with_reducible apply pguard_intro <;> (intro hc; (try simp only [hcb, reduceCtorEq, forall_const, ne_eq] at hc); first | (exfalso; omega) | (exfalso; exact hc trivial) | refine Ev_in ?_))
    | (with_reducible apply W_cond_k; intro _ _ ea eb; (simp only [condK, cob, opnd, constPV, Nat.reduceEqDiff, Nat.reduceLT, ↓reduceIte, hcb, reduceCtorEq, forall_const, ne_eq]); subst ea eb; first | (refine ⟨fun hc => ?_, fun hc => ?_⟩ <;> first | (exfalso; omega) | (exfalso; exact hc trivial) | skip) | skip)
    | (with_reducible apply hnx; clear hnx nx)
    | (with_reducible refine And.intro (by omega) ?_)
    | (with_reducible refine And.intro ?_ ?_)
    | (with_reducible refine pcall_k (cs) ?_; rintro _ _ ⟨rfl, rfl⟩ -; refine Ev_in ?_)
    | (with_reducible refine pcall_k (d1) ?_; rintro _ _ ⟨rfl, rfl⟩ -; refine Ev_in ?_)
    | (with_reducible refine pcall_k (d2) ?_; rintro _ _ ⟨rfl, rfl⟩ -; refine Ev_in ?_)
    | (with_reducible refine pcall_k (d3) ?_; rintro _ _ ⟨rfl, rfl⟩ -; refine Ev_in ?_)
    | (clear hnx nx; with_reducible apply hnx; clear hnx nx)
    | (clear hnx nx; clear hnx nx; with_reducible apply hnx; clear hnx nx)
    | (clear hnx nx; clear hnx nx; clear hnx nx; with_reducible apply hnx; clear hnx nx))
    all_goals first | exact absurd trivial hc | contradiction | exact fun h => False.elim h | (exfalso; omega) | (exfalso; have hc := of_decide_eq_false hc; omega) | (exfalso; simp only [Bool.not_false, Bool.not_true, decide_eq_true_eq, decide_eq_false_iff_not] at *; omega) | skip
    refine hlp _ (4 - (i + 1)) _ (by omega) ?_ ⟨i + 1, by omega, rfl, rfl⟩
    exact Wk_fr (by simp only [wkb, Nat.reduceEqDiff, Nat.reduceLT, ↓reduceIte, pn]) (Sub_nil _)
  · have hi2 : i = 4 := by omega
    subst hi2
    repeat' (first
    | (with_reducible apply W_seq_k; intro nx hnx)
    | (with_reducible first | apply W_block | apply W_scope)
    | (with_reducible refine W_prune 32711 ?_; simp only [prb, Nat.reducePow, Nat.reduceDiv, Nat.reduceMod, Nat.reduceBEq]; with_reducible apply W_region_l)
    | ((first | (with_reducible apply WL_op; intro nx hnx) | with_reducible refine Ev_out ?_ | (with_reducible refine pfresh_k hnm fun nm hnm => ?_; (try simp only [fmb] at hnm)) | (with_reducible refine pborn_mu hnm fun nm hnm => ?_; (try simp only [fmb] at hnm))); try (simp (maxSteps := 2000000) (disch := omega) only [evb, evd, pbuiltin, constPV, pnck, seqK, blockK, scopeK, pbin, pun, ppick, plen, piaddr, pindex, pfield, pslice, pbound, pconv, pelems, pextract, pmm, PV.mem?, PV.one, PV.cells, pageq, peqs, peq1, pmakes, pstore, pbytes, pmark, pusd, pust, psrc, pkey, pnile, pcap, pgrow, List.set, Value.cells, ↓popG_eq, ↓pop.eq_1, ↓List.getElem?_map, ↓List.getElem?_cons_zero, ↓List.getElem?_cons_succ, Value.oneCell', Nat.reduceAdd, Nat.reduceMul, Nat.reduceSub, Nat.reduceLeDiff, Nat.reduceEqDiff, ↓reduceIte, ne_eq, reduceCtorEq, forall_const, exists_and_left, exists_eq_left', eq_self, Nat.reduceLT, Int.reduceLT, Int.reduceLE, Int.reduceToNat, Int.reduceAdd, Int.reduceSub, Int.reduceNeg, hnm, Tryd.tf0, Tryd.tf1, Tryd.tf3, Tryd.tf4, Tryd.tf9, Tryd.tf22, Tryd.tf23, Tryd.tf26, Tryd.tf28, Tryd.tf45, Tryd.teq45, Tryd.teq94, Tryd.teq104, Tryd.teq113, Tryd.teq114, Tryd.call9, Tryd.call10, Tryd.call11, Tryd.call12, Tryd.call13, Tryd.call14, Tryd.call15, hLl]); repeat (refine And.intro (by omega) ?_))
    | ((with_reducible first | apply WL_nil | apply W_label | apply W_skip | apply W_exit | apply W_ret); try simp only [seqK, blockK, scopeK, ↓reduceIte, Nat.reduceEqDiff])
    | (with_reducible apply pguard_intro <;> (intro hc; (try simp only [hcb, reduceCtorEq, forall_const, ne_eq] at hc); first | (exfalso; omega) | (exfalso; exact hc trivial) | refine Ev_in ?_))
    | (with_reducible apply W_cond_k; intro _ _ ea eb; (simp only [condK, cob, opnd, constPV, Nat.reduceEqDiff, Nat.reduceLT, ↓reduceIte, hcb, reduceCtorEq, forall_const, ne_eq]); subst ea eb; first | (refine ⟨fun hc => ?_, fun hc => ?_⟩ <;> first | (exfalso; omega) | (exfalso; exact hc trivial) | skip) | skip)
    | (with_reducible apply hnx; clear hnx nx)
    | (with_reducible refine And.intro (by omega) ?_)
    | (with_reducible refine And.intro ?_ ?_)
    | (with_reducible refine pcall_k (c9) ?_; rintro _ _ ⟨rfl, rfl⟩ -; refine Ev_in ?_)
    | (clear hnx nx; with_reducible apply hnx; clear hnx nx)
    | (clear hnx nx; clear hnx nx; with_reducible apply hnx; clear hnx nx)
    | (clear hnx nx; clear hnx nx; clear hnx nx; with_reducible apply hnx; clear hnx nx))
    all_goals first | exact absurd trivial hc | contradiction | exact fun h => False.elim h | (exfalso; omega) | (exfalso; have hc := of_decide_eq_false hc; omega) | (exfalso; simp only [Bool.not_false, Bool.not_true, decide_eq_true_eq, decide_eq_false_iff_not] at *; omega) | skip
    (refine hfin _ _ (Fin_ret1 rfl (Sub_nil _) ?_); simp only [List.getD_cons_zero, List.getD_cons_succ, fr_getD_cons, fr_getD_nil, Nat.reduceEqDiff, Nat.reduceLT, ↓reduceIte]; first | trivial | exact ⟨rfl, by trivial⟩ | (simp; done) | (simp; omega))
end Go.PM
