/- Joined texts (Au Aq Av Bf Bg Ay Bb Bc Bi Bp Ba As At Aw): the machine, the contracts, the laws. Conditions: none but those that each names. -/
import Derived.Test.YthgaoncndnkcmaaDoorJc
set_option linter.unusedSimpArgs false
set_option linter.unusedVariables false
namespace Go.PM
open Go.Proofs
attribute [local irreducible] W PCalls pcall pcallI WL
set_option maxRecDepth 100000
set_option maxHeartbeats 8000000
theorem same_c (G : Globs) (x : Ltr) (b : List UInt8) (c : Int) : PCalls Tryd.prog G 41 [ltP x, .ptr c 0] [(c, ⟨9, false, 0, [pstr b]⟩)] (fun res H => res = pbool (decide (x.text = b)) ∧ H = [(c, ⟨9, false, 0, [pstr b]⟩)]) := by
  (refine PCalls_f Tryd.func41 rfl Tryd.ntmps41 Tryd.results41 (by simp) fun fin hfin => ?_; have hnm : True := trivial; simp (maxSteps := 2000000) (disch := omega) only [evb, evd, pbuiltin, constPV, pnck, seqK, blockK, scopeK, pbin, pun, ppick, plen, piaddr, pindex, pfield, pslice, pbound, pconv, pelems, pextract, pmm, PV.mem?, PV.one, PV.cells, pageq, peqs, peq1, pmakes, pstore, pbytes, pmark, pusd, pust, psrc, pkey, pnile, pcap, pgrow, List.set, Value.cells, ↓popG_eq, ↓pop.eq_1, ↓List.getElem?_map, ↓List.getElem?_cons_zero, ↓List.getElem?_cons_succ, Value.oneCell', Nat.reduceAdd, Nat.reduceMul, Nat.reduceSub, Nat.reduceLeDiff, Nat.reduceEqDiff, ↓reduceIte, ne_eq, reduceCtorEq, forall_const, exists_and_left, exists_eq_left', eq_self, Nat.reduceLT, Int.reduceLT, Int.reduceLE, Int.reduceToNat, Int.reduceAdd, Int.reduceSub, Int.reduceNeg, hnm, Tryd.tf0, Tryd.tf4, Tryd.tf9, Tryd.tf45, Tryd.teq45, Tryd.teq94, Tryd.teq104, Tryd.teq113, Tryd.teq114])
  repeat' (first
    | (with_reducible apply W_seq_k; intro nx hnx)
    | (with_reducible first | apply W_block | apply W_scope)
    | (with_reducible refine W_prune 15 ?_; simp only [prb, Nat.reducePow, Nat.reduceDiv, Nat.reduceMod, Nat.reduceBEq]; with_reducible apply W_region_l)
    | ((first | (with_reducible apply WL_op; intro nx hnx) | with_reducible refine Ev_out ?_ | (with_reducible refine pfresh_k hnm fun nm hnm => ?_; (try simp only [fmb] at hnm)) | (with_reducible refine pborn_mu hnm fun nm hnm => ?_; (try simp only [fmb] at hnm))); try (simp (maxSteps := 2000000) (disch := omega) only [evb, evd, pbuiltin, constPV, pnck, seqK, blockK, scopeK, pbin, pun, ppick, plen, piaddr, pindex, pfield, pslice, pbound, pconv, pelems, pextract, pmm, PV.mem?, PV.one, PV.cells, pageq, peqs, peq1, pmakes, pstore, pbytes, pmark, pusd, pust, psrc, pkey, pnile, pcap, pgrow, List.set, Value.cells, ↓popG_eq, ↓pop.eq_1, ↓List.getElem?_map, ↓List.getElem?_cons_zero, ↓List.getElem?_cons_succ, Value.oneCell', Nat.reduceAdd, Nat.reduceMul, Nat.reduceSub, Nat.reduceLeDiff, Nat.reduceEqDiff, ↓reduceIte, ne_eq, reduceCtorEq, forall_const, exists_and_left, exists_eq_left', eq_self, Nat.reduceLT, Int.reduceLT, Int.reduceLE, Int.reduceToNat, Int.reduceAdd, Int.reduceSub, Int.reduceNeg, hnm, Tryd.tf0, Tryd.tf4, Tryd.tf9, Tryd.tf45, Tryd.teq45, Tryd.teq94, Tryd.teq104, Tryd.teq113, Tryd.teq114]); repeat (refine And.intro (by omega) ?_))
    | ((with_reducible first | apply WL_nil | apply W_label | apply W_skip | apply W_exit | apply W_ret); try simp only [seqK, blockK, scopeK, ↓reduceIte, Nat.reduceEqDiff])
    | (with_reducible apply W_cond_k; intro _ _ ea eb; (simp only [condK, cob, opnd, constPV, Nat.reduceEqDiff, Nat.reduceLT, ↓reduceIte, hcb, reduceCtorEq, forall_const, ne_eq]); subst ea eb; first | (refine ⟨fun hc => ?_, fun hc => ?_⟩ <;> first | (exfalso; omega) | (exfalso; exact hc trivial) | skip) | skip)
    | (with_reducible apply hnx; clear hnx nx)
    | (with_reducible refine And.intro (by omega) ?_)
    | (with_reducible refine And.intro ?_ ?_)
    | (clear hnx nx; with_reducible apply hnx; clear hnx nx)
    | (clear hnx nx; clear hnx nx; with_reducible apply hnx; clear hnx nx)
    | (clear hnx nx; clear hnx nx; clear hnx nx; with_reducible apply hnx; clear hnx nx))
  refine hfin _ _ (Fin_ret1 rfl (H := [(c, ⟨9, false, 0, [pstr b]⟩)]) ⟨fun x hx => List.mem_cons_of_mem _ hx, by simp [names]⟩ ?_)
  simp only [fr_getD_cons, Nat.reduceEqDiff, Nat.reduceLT, ↓reduceIte]
  refine ⟨?_, by trivial⟩
  by_cases h : x.text = b <;> simp [h]
theorem findT_none {a : List Ltr} {b : List UInt8} (h : ∀ x ∈ a, ¬ x.text = b) : findT a b = none := by
  unfold findT
  rw [List.findIdx?_eq_none_iff]
  intro x hx
  simp [h x hx]
theorem findT_some {a : List Ltr} {b : List UInt8} {k : Nat} (hk : k < a.length) (h1 : a[k].text = b) (h2 : ∀ x ∈ a.take k, ¬ x.text = b) : findT a b = some k := by
  unfold findT
  rw [List.findIdx?_eq_some_iff_getElem]
  refine ⟨hk, by simp [h1], fun j hj => ?_⟩
  have := h2 a[j] (by rw [List.mem_take_iff_getElem]; exact ⟨j, by omega, rfl⟩)
  simp [this]
/-- What IndexFunc hands back. -/
def idxT (a : List Ltr) (b : List UInt8) : Int := match findT a b with | some k => k | none => -1
theorem indexFunc_c (G : Globs) (a : List Ltr) (b : List UInt8) (n c : Int) (ha : a.length ≤ 1000000) : PCalls Tryd.prog G 40 [.row n 5 a.length, .func 41 [.ptr c 0]] [(c, ⟨9, false, 0, [pstr b]⟩), (n, ⟨45, true, 5, flatL a⟩)] (fun res H => res = pint .i64 (idxT a b) ∧ H = [(c, ⟨9, false, 0, [pstr b]⟩), (n, ⟨45, true, 5, flatL a⟩)]) := by
  refine PCalls.nd fun nd => ?_
  have hne : (c = n) = False ∧ (n = c) = False := by
    simp only [names, List.map_cons, List.map_nil, List.nodup_cons, List.mem_cons, List.not_mem_nil, or_false] at nd
    exact ⟨eq_false nd.1, eq_false fun e => nd.1 e.symm⟩
  (refine PCalls_f Tryd.func40 rfl Tryd.ntmps40 Tryd.results40 (by simp) fun fin hfin => ?_; have hnm : True := trivial; simp (maxSteps := 2000000) (disch := omega) only [evb, evd, pbuiltin, constPV, pnck, seqK, blockK, scopeK, pbin, pun, ppick, plen, piaddr, pindex, pfield, pslice, pbound, pconv, pelems, pextract, pmm, PV.mem?, PV.one, PV.cells, pageq, peqs, peq1, pmakes, pstore, pbytes, pmark, pusd, pust, psrc, pkey, pnile, pcap, pgrow, List.set, Value.cells, ↓popG_eq, ↓pop.eq_1, ↓List.getElem?_map, ↓List.getElem?_cons_zero, ↓List.getElem?_cons_succ, Value.oneCell', Nat.reduceAdd, Nat.reduceMul, Nat.reduceSub, Nat.reduceLeDiff, Nat.reduceEqDiff, ↓reduceIte, ne_eq, reduceCtorEq, forall_const, exists_and_left, exists_eq_left', eq_self, Nat.reduceLT, Int.reduceLT, Int.reduceLE, Int.reduceToNat, Int.reduceAdd, Int.reduceSub, Int.reduceNeg, hnm, Tryd.tf0, Tryd.tf3, Tryd.tf4, Tryd.tf23, Tryd.tf45, Tryd.teq45, Tryd.tf64, Tryd.teq94, Tryd.teq104, Tryd.teq113, Tryd.teq114])
  repeat' (first
    | (with_reducible apply W_seq_k; intro nx hnx)
    | (with_reducible first | apply W_block | apply W_scope)
    | (with_reducible refine W_prune 435 ?_; simp only [prb, Nat.reducePow, Nat.reduceDiv, Nat.reduceMod, Nat.reduceBEq]; with_reducible apply W_region_l)
    | ((first | (with_reducible apply WL_op; intro nx hnx) | with_reducible refine Ev_out ?_); try (simp (maxSteps := 2000000) (disch := omega) only [evb, evd, pbuiltin, constPV, pnck, seqK, blockK, scopeK, pbin, pun, ppick, plen, piaddr, pindex, pfield, pslice, pbound, pconv, pelems, pextract, pmm, PV.mem?, PV.one, PV.cells, pageq, peqs, peq1, pmakes, pstore, pbytes, pmark, pusd, pust, psrc, pkey, pnile, pcap, pgrow, List.set, Value.cells, ↓popG_eq, ↓pop.eq_1, ↓List.getElem?_map, ↓List.getElem?_cons_zero, ↓List.getElem?_cons_succ, Value.oneCell', Nat.reduceAdd, Nat.reduceMul, Nat.reduceSub, Nat.reduceLeDiff, Nat.reduceEqDiff, ↓reduceIte, ne_eq, reduceCtorEq, forall_const, exists_and_left, exists_eq_left', eq_self, Nat.reduceLT, Int.reduceLT, Int.reduceLE, Int.reduceToNat, Int.reduceAdd, Int.reduceSub, Int.reduceNeg, hnm, Tryd.tf0, Tryd.tf3, Tryd.tf4, Tryd.tf23, Tryd.tf45, Tryd.teq45, Tryd.tf64, Tryd.teq94, Tryd.teq104, Tryd.teq113, Tryd.teq114, hne]); repeat (refine And.intro (by omega) ?_))
    | ((with_reducible first | apply WL_nil | apply W_label | apply W_skip | apply W_exit | apply W_ret); try simp only [seqK, blockK, scopeK, ↓reduceIte, Nat.reduceEqDiff])
    | (with_reducible apply W_cond_k; intro _ _ ea eb; (simp only [condK, cob, opnd, constPV, Nat.reduceEqDiff, Nat.reduceLT, ↓reduceIte, hcb, reduceCtorEq, forall_const, ne_eq]); subst ea eb; first | (refine ⟨fun hc => ?_, fun hc => ?_⟩ <;> first | (exfalso; omega) | (exfalso; exact hc trivial) | skip) | skip)
    | (with_reducible apply hnx; clear hnx nx)
    | (with_reducible refine And.intro (by omega) ?_)
    | (with_reducible refine And.intro ?_ ?_)
    | (clear hnx nx; with_reducible apply hnx; clear hnx nx)
    | (clear hnx nx; clear hnx nx; with_reducible apply hnx; clear hnx nx)
    | (clear hnx nx; clear hnx nx; clear hnx nx; with_reducible apply hnx; clear hnx nx))
  refine W_loop_k (fun z τ => ∃ (i : Nat), i ≤ a.length ∧ z = a.length - i ∧ (∀ x ∈ a.take i, ¬ x.text = b) ∧ τ = ⟨fr 19 [(8, pn i), (7, pint .i64 a.length), (0, .row n 5 a.length), (1, .func 41 [.ptr c 0])], [(c, ⟨9, false, 0, [pstr b]⟩), (n, ⟨45, true, 5, flatL a⟩)]⟩) a.length
    ⟨fr 19 [(8, pn 0), (7, pint .i64 a.length), (0, .row n 5 a.length), (1, .func 41 [.ptr c 0])], [(c, ⟨9, false, 0, [pstr b]⟩), (n, ⟨45, true, 5, flatL a⟩)]⟩ (by
    refine Wk_fr (by simp only [wkb, Nat.reduceEqDiff, Nat.reduceLT, ↓reduceIte, pn]) ?_
    exact Sub_refl (by simp [names, hne])) ⟨0, by omega, by omega, by simp, rfl⟩ ?_
  rintro z τ ⟨i, hi, rfl, hno, rfl⟩ lp hlp
  by_cases hil : i < a.length
  · have hat := flatL_at hil
    have hat : List.take 5 (List.drop (i * 5) (flatL a)) = [pstr a[i].text, pint .i64 a[i].base, pint .i64 a[i].mark, pint .i64 a[i].case_, pint .i64 a[i].width] := hat
    have c1 := same_c G a[i] b c
    have hfl := flatL_len a
    repeat' (first
    | (with_reducible apply W_seq_k; intro nx hnx)
    | (with_reducible first | apply W_block | apply W_scope)
    | (with_reducible refine W_prune 435 ?_; simp only [prb, Nat.reducePow, Nat.reduceDiv, Nat.reduceMod, Nat.reduceBEq]; with_reducible apply W_region_l)
    | ((first | (with_reducible apply WL_op; intro nx hnx) | with_reducible refine Ev_out ?_); try (simp (maxSteps := 2000000) (disch := omega) only [evb, evd, pbuiltin, constPV, pnck, seqK, blockK, scopeK, pbin, pun, ppick, plen, piaddr, pindex, pfield, pslice, pbound, pconv, pelems, pextract, pmm, PV.mem?, PV.one, PV.cells, pageq, peqs, peq1, pmakes, pstore, pbytes, pmark, pusd, pust, psrc, pkey, pnile, pcap, pgrow, List.set, Value.cells, ↓popG_eq, ↓pop.eq_1, ↓List.getElem?_map, ↓List.getElem?_cons_zero, ↓List.getElem?_cons_succ, Value.oneCell', Nat.reduceAdd, Nat.reduceMul, Nat.reduceSub, Nat.reduceLeDiff, Nat.reduceEqDiff, ↓reduceIte, ne_eq, reduceCtorEq, forall_const, exists_and_left, exists_eq_left', eq_self, Nat.reduceLT, Int.reduceLT, Int.reduceLE, Int.reduceToNat, Int.reduceAdd, Int.reduceSub, Int.reduceNeg, hnm, Tryd.tf0, Tryd.tf3, Tryd.tf4, Tryd.tf23, Tryd.tf45, Tryd.teq45, Tryd.tf64, Tryd.teq94, Tryd.teq104, Tryd.teq113, Tryd.teq114, hne, hat, hfl]); repeat (refine And.intro (by omega) ?_))
    | ((with_reducible first | apply WL_nil | apply W_label | apply W_skip | apply W_exit | apply W_ret); try simp only [seqK, blockK, scopeK, ↓reduceIte, Nat.reduceEqDiff])
    | (with_reducible apply W_cond_k; intro _ _ ea eb; (simp only [condK, cob, opnd, constPV, Nat.reduceEqDiff, Nat.reduceLT, ↓reduceIte, hcb, reduceCtorEq, forall_const, ne_eq]); subst ea eb; first | (refine ⟨fun hc => ?_, fun hc => ?_⟩ <;> first | (exfalso; omega) | (exfalso; exact hc trivial) | skip) | skip)
    | (with_reducible apply hnx; clear hnx nx)
    | (with_reducible refine And.intro (by omega) ?_)
    | (with_reducible refine And.intro ?_ ?_)
    | ((refine pcall_midn [] [_] [_] rfl c1 ?_; rintro _ _ ⟨rfl, rfl⟩ -; refine Ev_in ?_))
    | (clear hnx nx; with_reducible apply hnx; clear hnx nx)
    | (clear hnx nx; clear hnx nx; with_reducible apply hnx; clear hnx nx)
    | (clear hnx nx; clear hnx nx; clear hnx nx; with_reducible apply hnx; clear hnx nx))
    all_goals first
      | exact absurd trivial hc
      | exact fun h => False.elim h
      | (exfalso
         omega)
      | skip
    · exact (by kernel_rfl : callable Tryd.prog 41 = true)
    · have hk := findT_some hil hc hno
      refine hfin _ _ (Fin_ret1 rfl (Sub_refl (by simp [names, hne])) ?_)
      simp only [fr_getD_cons, Nat.reduceEqDiff, Nat.reduceLT, ↓reduceIte]
      exact ⟨by rw [idxT, hk], by trivial⟩
    · refine hlp _ (a.length - (i + 1)) _ (by omega) ?_ ⟨i + 1, by omega, rfl, ?_, rfl⟩
      · refine Wk_fr (by simp only [wkb, Nat.reduceEqDiff, Nat.reduceLT, ↓reduceIte, pn]) ?_
        exact Sub_refl (by simp [names, hne])
      · intro x hx
        rw [List.take_add_one, List.getElem?_eq_getElem hil, List.mem_append] at hx
        rcases hx with hx | hx
        · exact hno x hx
        · simp only [Option.toList_some, List.mem_singleton] at hx
          rw [hx]
          exact hc
  · have hi2 : i = a.length := by omega
    subst hi2
    repeat' (first
    | (with_reducible apply W_seq_k; intro nx hnx)
    | (with_reducible first | apply W_block | apply W_scope)
    | (with_reducible refine W_prune 435 ?_; simp only [prb, Nat.reducePow, Nat.reduceDiv, Nat.reduceMod, Nat.reduceBEq]; with_reducible apply W_region_l)
    | ((first | (with_reducible apply WL_op; intro nx hnx) | with_reducible refine Ev_out ?_); try (simp (maxSteps := 2000000) (disch := omega) only [evb, evd, pbuiltin, constPV, pnck, seqK, blockK, scopeK, pbin, pun, ppick, plen, piaddr, pindex, pfield, pslice, pbound, pconv, pelems, pextract, pmm, PV.mem?, PV.one, PV.cells, pageq, peqs, peq1, pmakes, pstore, pbytes, pmark, pusd, pust, psrc, pkey, pnile, pcap, pgrow, List.set, Value.cells, ↓popG_eq, ↓pop.eq_1, ↓List.getElem?_map, ↓List.getElem?_cons_zero, ↓List.getElem?_cons_succ, Value.oneCell', Nat.reduceAdd, Nat.reduceMul, Nat.reduceSub, Nat.reduceLeDiff, Nat.reduceEqDiff, ↓reduceIte, ne_eq, reduceCtorEq, forall_const, exists_and_left, exists_eq_left', eq_self, Nat.reduceLT, Int.reduceLT, Int.reduceLE, Int.reduceToNat, Int.reduceAdd, Int.reduceSub, Int.reduceNeg, hnm, Tryd.tf0, Tryd.tf3, Tryd.tf4, Tryd.tf23, Tryd.tf45, Tryd.teq45, Tryd.tf64, Tryd.teq94, Tryd.teq104, Tryd.teq113, Tryd.teq114, hne]); repeat (refine And.intro (by omega) ?_))
    | ((with_reducible first | apply WL_nil | apply W_label | apply W_skip | apply W_exit | apply W_ret); try simp only [seqK, blockK, scopeK, ↓reduceIte, Nat.reduceEqDiff])
    | (with_reducible apply W_cond_k; intro _ _ ea eb; (simp only [condK, cob, opnd, constPV, Nat.reduceEqDiff, Nat.reduceLT, ↓reduceIte, hcb, reduceCtorEq, forall_const, ne_eq]); subst ea eb; first | (refine ⟨fun hc => ?_, fun hc => ?_⟩ <;> first | (exfalso; omega) | (exfalso; exact hc trivial) | skip) | skip)
    | (with_reducible apply hnx; clear hnx nx)
    | (with_reducible refine And.intro (by omega) ?_)
    | (with_reducible refine And.intro ?_ ?_)
    | (clear hnx nx; with_reducible apply hnx; clear hnx nx)
    | (clear hnx nx; clear hnx nx; with_reducible apply hnx; clear hnx nx)
    | (clear hnx nx; clear hnx nx; clear hnx nx; with_reducible apply hnx; clear hnx nx))
    all_goals first
      | exact absurd trivial hc
      | exact fun h => False.elim h
      | (exfalso
         omega)
      | skip
    have hk := findT_none (by rw [List.take_length] at hno; exact hno)
    refine hfin _ _ (Fin_ret1 rfl (Sub_refl (by simp [names, hne])) ?_)
    simp only [fr_getD_cons, Nat.reduceEqDiff, Nat.reduceLT, ↓reduceIte]
    exact ⟨by rw [idxT, hk], by trivial⟩
end Go.PM

namespace Go.PM
open Go.Proofs
attribute [local irreducible] W PCalls pcall pcallI WL
set_option maxRecDepth 100000
set_option maxHeartbeats 8000000
theorem index63_c (G : Globs) (s : List UInt8) (c : UInt8) : PCalls Tryd.prog G 63 [pstr s, .val (.string ⟨#[c]⟩)] [] (fun res H => res = pint .i64 (Lib.indexByte s c) ∧ H = []) :=
  PCalls_pure (P := Tryd.prog) (G := G) (f := 63) [.string (mk s), .string ⟨#[c]⟩] (.int .i64 (Lib.indexByte s c)) (fun w => by
    have := Tryd.strings_Index_one (mk s) c w
    simpa [mk] using this)
theorem count_c (G : Globs) (s : List UInt8) (c : UInt8) : PCalls Tryd.prog G 62 [pstr s, .val (.string ⟨#[c]⟩)] [] (fun res H => res = pn (s.count c) ∧ H = []) :=
  PCalls_pure (P := Tryd.prog) (G := G) (f := 62) [.string (mk s), .string ⟨#[c]⟩] (.int .i64 (s.count c : Nat)) (fun w => by
    have := Tryd.strings_Count_one (mk s) c w
    simpa [mk, Lib.countByte] using this)
/-- A row of texts, or none. -/
@[reducible] def CRS (l : List (List UInt8)) (res : PV) (H : Heap) : Prop := (l = [] ∧ res = pnil ∧ H = []) ∨ (∃ n : Int, res = .row n 1 l.length ∧ H = [(n, ⟨9, true, 1, l.map pstr⟩)])
theorem set_mid {A R : List PV} {z x : PV} {k : Nat} (h : A.length = k) : List.take k (A ++ z :: R) ++ [x] ++ List.drop (k + 1) (A ++ z :: R) = A ++ x :: R := by
  subst h
  rw [List.take_left' rfl, ← List.drop_drop, List.drop_left' rfl]
  simp
theorem genSplit_r (G : Globs) (s : List UInt8) (c : UInt8) (hs : s.length ≤ 100000000) : PCalls Tryd.prog G 54 [pstr s, .val (.string ⟨#[c]⟩), .val (.int .i64 0), .val (.int .i64 (-1))] [] (CRS (splitF c s)) := by
  have c1 := count_c G s c
  have hcl : s.count c ≤ s.length := List.count_le_length
  (refine PCalls_f Tryd.func54 rfl Tryd.ntmps54 Tryd.results54 (by simp) fun fin hfin => ?_; have hnm : True := trivial; simp (maxSteps := 2000000) (disch := omega) only [evb, evd, pbuiltin, constPV, pnck, seqK, blockK, scopeK, pbin, pun, ppick, plen, piaddr, pindex, pfield, pslice, pbound, pconv, pelems, pextract, pmm, PV.mem?, PV.one, PV.cells, pageq, peqs, peq1, pmakes, pstore, pbytes, pmark, pusd, pust, psrc, pkey, pnile, pcap, pgrow, List.set, Value.cells, ↓popG_eq, ↓pop.eq_1, ↓List.getElem?_map, ↓List.getElem?_cons_zero, ↓List.getElem?_cons_succ, Value.oneCell', Nat.reduceAdd, Nat.reduceMul, Nat.reduceSub, Nat.reduceLeDiff, Nat.reduceEqDiff, ↓reduceIte, ne_eq, reduceCtorEq, forall_const, exists_and_left, exists_eq_left', eq_self, Nat.reduceLT, Int.reduceLT, Int.reduceLE, Int.reduceToNat, Int.reduceAdd, Int.reduceSub, Int.reduceNeg, hnm, Tryd.tf0, Tryd.tf3, Tryd.tf4, Tryd.tf9, Tryd.tf26, Tryd.teq45, Tryd.teq94, Tryd.teq104, Tryd.teq113, Tryd.teq114, Tryd.call61, Tryd.call62, Tryd.call63])
  repeat' (first
    | (with_reducible apply W_seq_k; intro nx hnx)
    | (with_reducible first | apply W_block | apply W_scope)
    | (with_reducible refine W_prune 3855 ?_; simp only [prb, Nat.reducePow, Nat.reduceDiv, Nat.reduceMod, Nat.reduceBEq]; with_reducible apply W_region_l)
    | ((first | (with_reducible apply WL_op; intro nx hnx) | with_reducible refine Ev_out ?_ | (with_reducible refine pfresh_k hnm fun nm hnm => ?_; (try simp only [fmb] at hnm)) | (with_reducible refine pborn_mu hnm fun nm hnm => ?_; (try simp only [fmb] at hnm)) | (with_reducible refine pmaybe_k ?_; intro bn hbn)); try (simp (maxSteps := 2000000) (disch := omega) only [evb, evd, pbuiltin, constPV, pnck, seqK, blockK, scopeK, pbin, pun, ppick, plen, piaddr, pindex, pfield, pslice, pbound, pconv, pelems, pextract, pmm, PV.mem?, PV.one, PV.cells, pageq, peqs, peq1, pmakes, pstore, pbytes, pmark, pusd, pust, psrc, pkey, pnile, pcap, pgrow, List.set, Value.cells, ↓popG_eq, ↓pop.eq_1, ↓List.getElem?_map, ↓List.getElem?_cons_zero, ↓List.getElem?_cons_succ, Value.oneCell', Nat.reduceAdd, Nat.reduceMul, Nat.reduceSub, Nat.reduceLeDiff, Nat.reduceEqDiff, ↓reduceIte, ne_eq, reduceCtorEq, forall_const, exists_and_left, exists_eq_left', eq_self, Nat.reduceLT, Int.reduceLT, Int.reduceLE, Int.reduceToNat, Int.reduceAdd, Int.reduceSub, Int.reduceNeg, hnm, Tryd.tf0, Tryd.tf3, Tryd.tf4, Tryd.tf9, Tryd.tf26, Tryd.teq45, Tryd.teq94, Tryd.teq104, Tryd.teq113, Tryd.teq114, Tryd.call61, Tryd.call62, Tryd.call63]); repeat (refine And.intro (by omega) ?_))
    | ((with_reducible first | apply WL_nil | apply W_label | apply W_skip | apply W_exit | apply W_ret); try simp only [seqK, blockK, scopeK, ↓reduceIte, Nat.reduceEqDiff])
    | (with_reducible apply W_cond_k; intro _ _ ea eb; (simp only [condK, cob, opnd, constPV, Nat.reduceEqDiff, Nat.reduceLT, ↓reduceIte, hcb, reduceCtorEq, forall_const, ne_eq]); subst ea eb; first | (refine ⟨fun hc => ?_, fun hc => ?_⟩ <;> first | (exfalso; omega) | (exfalso; exact hc trivial) | skip) | skip)
    | (with_reducible apply hnx; clear hnx nx)
    | (with_reducible refine And.intro (by omega) ?_)
    | (with_reducible refine And.intro ?_ ?_)
    | (with_reducible refine pcall_k (c1) ?_; rintro _ _ ⟨rfl, rfl⟩ -; refine Ev_in ?_)
    | (clear hnx nx; with_reducible apply hnx; clear hnx nx)
    | (clear hnx nx; clear hnx nx; with_reducible apply hnx; clear hnx nx)
    | (clear hnx nx; clear hnx nx; clear hnx nx; with_reducible apply hnx; clear hnx nx))
  all_goals first
    | exact absurd trivial hc
    | (exfalso
       omega)
    | skip
  have hm : min ((s.count c : Int) + 1) ((s.length : Int) + 1) = ((s.count c + 1 : Nat) : Int) := by omega
  have hz : ((s.count c + 1 : Nat) : Int) - 1 = ((s.count c : Nat) : Int) := by omega
  rw [hm, hz, Int.toNat_natCast]
  obtain ⟨n, hn⟩ : ∃ n, n = s.count c := ⟨_, rfl⟩
  rw [← hn]
  generalize nm = M at *
  refine W_loop_k (fun z τ => ∃ (i : Nat) (r : List UInt8) (out : List (List UInt8)), i ≤ n ∧ z = n - i ∧ out.length = i ∧ r.count c = n - i ∧ r.length ≤ s.length ∧ splitF c s = out ++ splitF c r ∧ τ = ⟨fr 66 [(10, pn i), (3, pn n), (9, .row M 1 (n + 1)), (0, pstr r), (1, .val (.string ⟨#[c]⟩)), (2, .val (.int .i64 0))], [(M, ⟨9, true, 1, out.map pstr ++ List.replicate (n + 1 - i) (.val (.string ⟨#[]⟩))⟩)]⟩) n
    ⟨fr 66 [(10, pn 0), (3, pn n), (9, .row M 1 (n + 1)), (0, pstr s), (1, .val (.string ⟨#[c]⟩)), (2, .val (.int .i64 0))], [(M, ⟨9, true, 1, List.replicate (n + 1) (.val (.string ⟨#[]⟩))⟩)]⟩ (by
    refine Wk_fr (by simp only [wkb, Nat.reduceEqDiff, Nat.reduceLT, ↓reduceIte, pn]) ?_
    rw [List.flatten_replicate_singleton]
    exact Sub_refl (by simp [names])) ⟨0, s, [], by omega, by omega, rfl, by omega, by omega, by simp, rfl⟩ ?_
  rintro z τ ⟨i, r, out, hi, rfl, hol, hrc, hrl, hsp, rfl⟩ lp hlp
  subst hol
  have hrep : List.replicate (n + 1 - out.length) (PV.val (.string ⟨#[]⟩)) = .val (.string ⟨#[]⟩) :: List.replicate (n + 1 - (out.length + 1)) (PV.val (.string ⟨#[]⟩)) := by
    rw [show n + 1 - out.length = (n + 1 - (out.length + 1)) + 1 by omega, List.replicate_succ]
  have hlen : (out.map pstr ++ List.replicate (n + 1 - out.length) (PV.val (.string ⟨#[]⟩))).length = n + 1 := by
    rw [List.length_append, List.length_map, List.length_replicate]
    omega
  by_cases hil : out.length < n
  · rcases idx_cases c r with ⟨h1, h2⟩ | ⟨t, r', h1, h2, h3⟩
    · have := List.count_eq_zero.2 h2
      omega
    · have c2 := index63_c G r c
      rw [h3] at c2
      have hr1 : List.take t.length r = t := by rw [h1, List.take_left' rfl]
      have hr2 : List.drop (t.length + 1) (List.take r.length r) = r' := by
        rw [List.take_length, h1, ← List.drop_drop, List.drop_left' rfl]
        rfl
      have hlr : r.length = t.length + 1 + r'.length := by rw [h1]; simp; omega
      have hcr : r'.count c = n - (out.length + 1) := by
        rw [h1, List.count_append, List.count_eq_zero.2 h2, List.count_cons_self] at hrc
        omega
      rw [h1, splitF_cut h2] at hsp
      clear h1
      have hn1 : ((t.length : Int) + 1).toNat = t.length + 1 := by omega
      have hn2 : ((t.length : Int) + 0).toNat = t.length := by omega
      repeat' (first
    | (with_reducible apply W_seq_k; intro nx hnx)
    | (with_reducible first | apply W_block | apply W_scope)
    | (with_reducible refine W_prune 3855 ?_; simp only [prb, Nat.reducePow, Nat.reduceDiv, Nat.reduceMod, Nat.reduceBEq]; with_reducible apply W_region_l)
    | ((first | (with_reducible apply WL_op; intro nx hnx) | with_reducible refine Ev_out ?_ | (with_reducible refine pfresh_k hnm fun nm hnm => ?_; (try simp only [fmb] at hnm)) | (with_reducible refine pborn_mu hnm fun nm hnm => ?_; (try simp only [fmb] at hnm)) | (with_reducible refine pmaybe_k ?_; intro bn hbn)); try (simp (maxSteps := 2000000) (disch := omega) only [evb, evd, pbuiltin, constPV, pnck, seqK, blockK, scopeK, pbin, pun, ppick, plen, piaddr, pindex, pfield, pslice, pbound, pconv, pelems, pextract, pmm, PV.mem?, PV.one, PV.cells, pageq, peqs, peq1, pmakes, pstore, pbytes, pmark, pusd, pust, psrc, pkey, pnile, pcap, pgrow, List.set, Value.cells, ↓popG_eq, ↓pop.eq_1, ↓List.getElem?_map, ↓List.getElem?_cons_zero, ↓List.getElem?_cons_succ, Value.oneCell', Nat.reduceAdd, Nat.reduceMul, Nat.reduceSub, Nat.reduceLeDiff, Nat.reduceEqDiff, ↓reduceIte, ne_eq, reduceCtorEq, forall_const, exists_and_left, exists_eq_left', eq_self, Nat.reduceLT, Int.reduceLT, Int.reduceLE, Int.reduceToNat, Int.reduceAdd, Int.reduceSub, Int.reduceNeg, hnm, Tryd.tf0, Tryd.tf3, Tryd.tf4, Tryd.tf9, Tryd.tf26, Tryd.teq45, Tryd.teq94, Tryd.teq104, Tryd.teq113, Tryd.teq114, Tryd.call61, Tryd.call62, Tryd.call63, hr1, hr2, hn1, hn2, hlen]); repeat (refine And.intro (by omega) ?_))
    | ((with_reducible first | apply WL_nil | apply W_label | apply W_skip | apply W_exit | apply W_ret); try simp only [seqK, blockK, scopeK, ↓reduceIte, Nat.reduceEqDiff])
    | (with_reducible apply W_cond_k; intro _ _ ea eb; (simp only [condK, cob, opnd, constPV, Nat.reduceEqDiff, Nat.reduceLT, ↓reduceIte, hcb, reduceCtorEq, forall_const, ne_eq]); subst ea eb; first | (refine ⟨fun hc => ?_, fun hc => ?_⟩ <;> first | (exfalso; omega) | (exfalso; exact hc trivial) | skip) | skip)
    | (with_reducible apply hnx; clear hnx nx)
    | (with_reducible refine And.intro (by omega) ?_)
    | (with_reducible refine And.intro ?_ ?_)
    | (with_reducible refine pcall_k (c2) ?_; rintro _ _ ⟨rfl, rfl⟩ -; refine Ev_in ?_)
    | (clear hnx nx; with_reducible apply hnx; clear hnx nx)
    | (clear hnx nx; clear hnx nx; with_reducible apply hnx; clear hnx nx)
    | (clear hnx nx; clear hnx nx; clear hnx nx; with_reducible apply hnx; clear hnx nx))
      all_goals first
        | exact absurd trivial hc
        | exact fun h => False.elim h
        | (exfalso
           omega)
        | skip
      refine hlp _ (n - (out.length + 1)) ⟨fr 66 [(10, pn (out.length + 1)), (3, pn n), (9, .row M 1 (n + 1)), (0, pstr r'), (1, .val (.string ⟨#[c]⟩)), (2, .val (.int .i64 0))], [(M, ⟨9, true, 1, (out ++ [t]).map pstr ++ List.replicate (n + 1 - (out.length + 1)) (.val (.string ⟨#[]⟩))⟩)]⟩ (by omega) ?_ ⟨out.length + 1, r', out ++ [t], by omega, rfl, by simp, hcr, by omega, by simpa using hsp, rfl⟩
      rw [hrep, set_mid (by simp), List.map_append]
      refine Wk_fr (by simp only [wkb, Nat.reduceEqDiff, Nat.reduceLT, ↓reduceIte, pn]) ?_
      rw [List.append_assoc]
      exact Sub_refl (by simp [names])
  · have hi2 : out.length = n := by omega
    have hr0 : c ∉ r := List.count_eq_zero.1 (by omega)
    rw [splitF_none hr0] at hsp
    repeat' (first
    | (with_reducible apply W_seq_k; intro nx hnx)
    | (with_reducible first | apply W_block | apply W_scope)
    | (with_reducible refine W_prune 3855 ?_; simp only [prb, Nat.reducePow, Nat.reduceDiv, Nat.reduceMod, Nat.reduceBEq]; with_reducible apply W_region_l)
    | ((first | (with_reducible apply WL_op; intro nx hnx) | with_reducible refine Ev_out ?_ | (with_reducible refine pfresh_k hnm fun nm hnm => ?_; (try simp only [fmb] at hnm)) | (with_reducible refine pborn_mu hnm fun nm hnm => ?_; (try simp only [fmb] at hnm)) | (with_reducible refine pmaybe_k ?_; intro bn hbn)); try (simp (maxSteps := 2000000) (disch := omega) only [evb, evd, pbuiltin, constPV, pnck, seqK, blockK, scopeK, pbin, pun, ppick, plen, piaddr, pindex, pfield, pslice, pbound, pconv, pelems, pextract, pmm, PV.mem?, PV.one, PV.cells, pageq, peqs, peq1, pmakes, pstore, pbytes, pmark, pusd, pust, psrc, pkey, pnile, pcap, pgrow, List.set, Value.cells, ↓popG_eq, ↓pop.eq_1, ↓List.getElem?_map, ↓List.getElem?_cons_zero, ↓List.getElem?_cons_succ, Value.oneCell', Nat.reduceAdd, Nat.reduceMul, Nat.reduceSub, Nat.reduceLeDiff, Nat.reduceEqDiff, ↓reduceIte, ne_eq, reduceCtorEq, forall_const, exists_and_left, exists_eq_left', eq_self, Nat.reduceLT, Int.reduceLT, Int.reduceLE, Int.reduceToNat, Int.reduceAdd, Int.reduceSub, Int.reduceNeg, hnm, Tryd.tf0, Tryd.tf3, Tryd.tf4, Tryd.tf9, Tryd.tf26, Tryd.teq45, Tryd.teq94, Tryd.teq104, Tryd.teq113, Tryd.teq114, Tryd.call61, Tryd.call62, Tryd.call63, hlen]); repeat (refine And.intro (by omega) ?_))
    | ((with_reducible first | apply WL_nil | apply W_label | apply W_skip | apply W_exit | apply W_ret); try simp only [seqK, blockK, scopeK, ↓reduceIte, Nat.reduceEqDiff])
    | (with_reducible apply W_cond_k; intro _ _ ea eb; (simp only [condK, cob, opnd, constPV, Nat.reduceEqDiff, Nat.reduceLT, ↓reduceIte, hcb, reduceCtorEq, forall_const, ne_eq]); subst ea eb; first | (refine ⟨fun hc => ?_, fun hc => ?_⟩ <;> first | (exfalso; omega) | (exfalso; exact hc trivial) | skip) | skip)
    | (with_reducible apply hnx; clear hnx nx)
    | (with_reducible refine And.intro (by omega) ?_)
    | (with_reducible refine And.intro ?_ ?_)
    | (clear hnx nx; with_reducible apply hnx; clear hnx nx)
    | (clear hnx nx; clear hnx nx; with_reducible apply hnx; clear hnx nx)
    | (clear hnx nx; clear hnx nx; clear hnx nx; with_reducible apply hnx; clear hnx nx))
    all_goals first
      | exact absurd trivial hc
      | exact fun h => False.elim h
      | (exfalso
         omega)
      | skip
    rw [hrep, set_mid (by simp), hi2]
    refine hfin _ _ (Fin_ret1 rfl (Sub_refl (by simp [names])) ?_)
    simp only [fr_getD_cons, Nat.reduceEqDiff, Nat.reduceLT, ↓reduceIte]
    rw [hsp]
    refine .inr ⟨M, ?_, ?_⟩
    · rw [List.length_append, hi2]
      rfl
    · rw [List.map_append, Nat.sub_self]
      rfl
theorem split_r (G : Globs) (s : List UInt8) (c : UInt8) (hs : s.length ≤ 100000000) : PCalls Tryd.prog G 38 [pstr s, .val (.string ⟨#[c]⟩)] [] (CRS (splitF c s)) := by
  have c1 := genSplit_r G s c hs
  (refine PCalls_f Tryd.func38 rfl Tryd.ntmps38 Tryd.results38 (by simp) fun fin hfin => ?_; have hnm : True := trivial; simp (maxSteps := 2000000) (disch := omega) only [evb, evd, pbuiltin, constPV, pnck, seqK, blockK, scopeK, pbin, pun, ppick, plen, piaddr, pindex, pfield, pslice, pbound, pconv, pelems, pextract, pmm, PV.mem?, PV.one, PV.cells, pageq, peqs, peq1, pmakes, pstore, pbytes, pmark, pusd, pust, psrc, pkey, pnile, pcap, pgrow, List.set, Value.cells, ↓popG_eq, ↓pop.eq_1, ↓List.getElem?_map, ↓List.getElem?_cons_zero, ↓List.getElem?_cons_succ, Value.oneCell', Nat.reduceAdd, Nat.reduceMul, Nat.reduceSub, Nat.reduceLeDiff, Nat.reduceEqDiff, ↓reduceIte, ne_eq, reduceCtorEq, forall_const, exists_and_left, exists_eq_left', eq_self, Nat.reduceLT, Int.reduceLT, Int.reduceLE, Int.reduceToNat, Int.reduceAdd, Int.reduceSub, Int.reduceNeg, hnm, Tryd.tf3, Tryd.tf9, Tryd.tf26, Tryd.teq45, Tryd.teq94, Tryd.teq104, Tryd.teq113, Tryd.teq114, Tryd.call54])
  repeat' (first
    | (with_reducible apply W_seq_k; intro nx hnx)
    | (with_reducible first | apply W_block | apply W_scope)
    | (with_reducible refine W_prune 19 ?_; simp only [prb, Nat.reducePow, Nat.reduceDiv, Nat.reduceMod, Nat.reduceBEq]; with_reducible apply W_region_l)
    | ((first | (with_reducible apply WL_op; intro nx hnx) | with_reducible refine Ev_out ?_); try (simp (maxSteps := 2000000) (disch := omega) only [evb, evd, pbuiltin, constPV, pnck, seqK, blockK, scopeK, pbin, pun, ppick, plen, piaddr, pindex, pfield, pslice, pbound, pconv, pelems, pextract, pmm, PV.mem?, PV.one, PV.cells, pageq, peqs, peq1, pmakes, pstore, pbytes, pmark, pusd, pust, psrc, pkey, pnile, pcap, pgrow, List.set, Value.cells, ↓popG_eq, ↓pop.eq_1, ↓List.getElem?_map, ↓List.getElem?_cons_zero, ↓List.getElem?_cons_succ, Value.oneCell', Nat.reduceAdd, Nat.reduceMul, Nat.reduceSub, Nat.reduceLeDiff, Nat.reduceEqDiff, ↓reduceIte, ne_eq, reduceCtorEq, forall_const, exists_and_left, exists_eq_left', eq_self, Nat.reduceLT, Int.reduceLT, Int.reduceLE, Int.reduceToNat, Int.reduceAdd, Int.reduceSub, Int.reduceNeg, hnm, Tryd.tf3, Tryd.tf9, Tryd.tf26, Tryd.teq45, Tryd.teq94, Tryd.teq104, Tryd.teq113, Tryd.teq114, Tryd.call54]); repeat (refine And.intro (by omega) ?_))
    | ((with_reducible first | apply WL_nil | apply W_label | apply W_skip | apply W_exit | apply W_ret); try simp only [seqK, blockK, scopeK, ↓reduceIte, Nat.reduceEqDiff])
    | (with_reducible apply W_cond_k; intro _ _ ea eb; (simp only [condK, cob, opnd, constPV, Nat.reduceEqDiff, Nat.reduceLT, ↓reduceIte, hcb, reduceCtorEq, forall_const, ne_eq]); subst ea eb; first | (refine ⟨fun hc => ?_, fun hc => ?_⟩ <;> first | (exfalso; omega) | (exfalso; exact hc trivial) | skip) | skip)
    | (with_reducible apply hnx; clear hnx nx)
    | (with_reducible refine And.intro (by omega) ?_)
    | (with_reducible refine And.intro ?_ ?_)
    | ((with_reducible refine pcall_k c1 ?_; rintro _ _ (⟨hv, rfl, rfl⟩ | ⟨n, rfl, rfl⟩) - <;> refine Ev_in ?_))
    | (clear hnx nx; with_reducible apply hnx; clear hnx nx)
    | (clear hnx nx; clear hnx nx; with_reducible apply hnx; clear hnx nx)
    | (clear hnx nx; clear hnx nx; clear hnx nx; with_reducible apply hnx; clear hnx nx))
  · exact absurd hv splitF_ne
  · refine hfin _ _ (Fin_ret1 rfl (Sub_refl (by simp [names])) ?_)
    simp only [fr_getD_cons, Nat.reduceEqDiff, Nat.reduceLT, ↓reduceIte]
    exact .inr ⟨n, rfl, rfl⟩
/-- Texts in a row are turned no more. -/
theorem Px_sts {G : Globs} {O : Int} {t1 : TypeId} (l : List (List UInt8)) : Px G (.row O 1 l.length) [(O, ⟨t1, true, 1, l.map pstr⟩)] (.list 1 (l.map pstr)) [] := by
  have h := Px.freeze (G := G) (.row O 1 l.length) [(O, ⟨t1, true, 1, l.map pstr⟩)] O (o := ⟨t1, true, 1, l.map pstr⟩) (by simp only [look, if_true]) (by simp [frzOk, del])
  have e : frz O (l.map pstr) (.row O 1 l.length) = .list 1 (l.map pstr) := by
    simp only [frz, frz1, if_true]
    rw [if_pos ⟨by simp, by omega⟩, elemsOf, if_pos rfl, List.take_of_length_le (by simp)]
  simp only [e] at h
  simpa [frzH, del] using h
theorem CRS.frz {G : Globs} {f : FuncId} {args : List PV} {b : List (List UInt8)} (h : PCalls Tryd.prog G f args [] (CRS b)) : PCalls Tryd.prog G f args [] (fun res H => res = .list 1 (b.map pstr) ∧ H = []) := by
  refine h.px fun res H hR => ?_
  rcases hR with ⟨rfl, rfl, rfl⟩ | ⟨N, rfl, rfl⟩
  · exact ⟨_, _, Px.nil 1 _, rfl, rfl⟩
  · exact ⟨_, _, Px_sts b, rfl, rfl⟩
theorem split_c (G : Globs) (s : List UInt8) (c : UInt8) (hs : s.length ≤ 100000000) : PCalls Tryd.prog G 38 [pstr s, .val (.string ⟨#[c]⟩)] [] (fun res H => res = .list 1 ((splitF c s).map pstr) ∧ H = []) := CRS.frz (split_r G s c hs)
end Go.PM

namespace Go.PM
open Go.Proofs
attribute [local irreducible] W PCalls pcall pcallI WL
set_option maxRecDepth 100000
set_option maxHeartbeats 8000000
theorem cutF_le (s : List UInt8) (c : UInt8) : (cutF s c).1.length ≤ s.length := by
  unfold cutF
  split
  · simp
    omega
  · simp
theorem splitF_step {c : UInt8} {s : List UInt8} (h : s ≠ []) : ((cutF s c).2.2 = true ∧ splitF c s = (cutF s c).1 :: splitF c (cutF s c).2.1 ∧ (cutF s c).2.1.length < s.length ∧ (cutF s c).1.length ≤ s.length) ∨ ((cutF s c).2.2 = false ∧ splitF c s = [s]) := by
  rcases idx_cases c s with ⟨h1, h2⟩ | ⟨t, r, h1, h2, h3⟩
  · refine .inr ⟨?_, splitF_none h2⟩
    simp [cutF, h1]
  · have e : cutF s c = (t, r, true) := by
      unfold cutF
      rw [h3, if_pos (by omega), Int.toNat_natCast, h1, List.take_left' rfl, ← List.drop_drop, List.drop_left' rfl]
      rfl
    refine .inl ⟨by rw [e], ?_, ?_⟩
    · rw [e]
      conv => lhs; rw [h1]
      exact splitF_cut h2
    · rw [e, h1]
      simp
      omega
/-- The cells of the texts of bases. -/
def secs (xs : List (Ltr × List UInt8)) : List PV := xs.map fun x => pstr x.2
/-- What Parse has read so far. -/
@[reducible] def parS (s r : List UInt8) (xs : List (Ltr × List UInt8)) (A B : Int) : PState := ⟨fr 130 [(6, .row B 1 xs.length), (5, .row A 5 xs.length), (0, pstr r)], [(B, ⟨9, true, 1, secs xs⟩), (A, ⟨45, true, 5, flatL (xs.map Prod.fst)⟩)]⟩
theorem lineF_five {t x b m k w : List UInt8} (h : splitF 32 t = [x, b, m, k, w]) : lineF t = if x = [] ∨ b = [] then none else if (numF m).2 && ((numF k).2 && (numF w).2) then some (⟨x, 0, (numF m).1, (numF k).1, (numF w).1⟩, b) else none := by
  unfold lineF
  rw [h]
theorem lineF_not {t : List UInt8} (h : (splitF 32 t).length ≠ 5) : lineF t = none := by
  unfold lineF
  split
  · rename_i h2
    rw [h2] at h
    exact absurd rfl h
  · rfl
theorem five {l : List (List UInt8)} (h : l.length = 5) : ∃ x b m k w, l = [x, b, m, k, w] := by
  match l, h with
  | [x, b, m, k, w], _ => exact ⟨x, b, m, k, w, rfl⟩
theorem parseF_bad {s : List UInt8} {xs : List (Ltr × List UInt8)} (hs : s.length ≤ 65536) (h : readL (splitF 10 s) = (xs, false)) : parseF s = ([], (xs.length : Int) + 1, 2) := by
  unfold parseF
  rw [if_neg (by omega), h, if_pos rfl]
theorem parseF_none {s : List UInt8} {xs : List (Ltr × List UInt8)} {i : Nat} (hs : s.length ≤ 65536) (h : readL (splitF 10 s) = (xs, true)) (hi : i < xs.length) (h1 : findT (xs.map Prod.fst) xs[i].2 = none) (h2 : ∀ x ∈ xs.take i, (findT (xs.map Prod.fst) x.2).isSome = true) : parseF s = ([], (i : Int) + 1, 6) := by
  unfold parseF
  rw [if_neg (by omega), h, if_neg (by simp)]
  have : (xs.findIdx? fun x => (findT (xs.map Prod.fst) x.2).isNone) = some i := by
    rw [List.findIdx?_eq_some_iff_getElem]
    refine ⟨hi, by simp [h1], fun j hj => ?_⟩
    have := h2 xs[j] (by rw [List.mem_take_iff_getElem]; exact ⟨j, by omega, rfl⟩)
    cases hq : findT (xs.map Prod.fst) xs[j].2 with
    | none => rw [hq] at this; cases this
    | some k => simp
  rw [this]
theorem parseF_ok {s : List UInt8} {xs : List (Ltr × List UInt8)} (hs : s.length ≤ 65536) (h : readL (splitF 10 s) = (xs, true)) (h2 : ∀ x ∈ xs, (findT (xs.map Prod.fst) x.2).isSome = true) : parseF s = if validF (basedF xs) then (basedF xs, 0, 0) else ([], 0, 1) := by
  unfold parseF
  rw [if_neg (by omega), h, if_neg (by simp)]
  have : (xs.findIdx? fun x => (findT (xs.map Prod.fst) x.2).isNone) = none := by
    rw [List.findIdx?_eq_none_iff]
    intro x hx
    have := h2 x hx
    cases hq : findT (xs.map Prod.fst) x.2 with
    | none => rw [hq] at this; cases this
    | some k => simp
  rw [this]
theorem findT_texts {a b : List Ltr} (h : texts a = texts b) (t : List UInt8) : findT a t = findT b t := by
  have e : ∀ a : List Ltr, findT a t = (texts a).findIdx? fun x => decide (x = t) := fun a => by
    unfold findT texts
    rw [List.findIdx?_map]
    rfl
  rw [e, e, h]
/-- The letters, the first i with their bases. -/
def upto (xs : List (Ltr × List UInt8)) (i : Nat) : List Ltr := (basedF xs).take i ++ (xs.map Prod.fst).drop i
theorem basedF_len {xs : List (Ltr × List UInt8)} : (basedF xs).length = xs.length := by simp [basedF]
theorem upto_zero {xs : List (Ltr × List UInt8)} : upto xs 0 = xs.map Prod.fst := by simp [upto]
theorem upto_full {xs : List (Ltr × List UInt8)} : upto xs xs.length = basedF xs := by
  unfold upto
  rw [List.take_of_length_le (by simp [basedF]), List.drop_of_length_le (by simp), List.append_nil]
theorem upto_get {xs : List (Ltr × List UInt8)} {i : Nat} (h : i ≤ xs.length) (j : Nat) : (upto xs i)[j]? = if j < i then (basedF xs)[j]? else (xs.map Prod.fst)[j]? := by
  unfold upto
  have hl : ((basedF xs).take i).length = i := by
    rw [List.length_take, basedF_len]
    omega
  split
  · rename_i hj
    rw [List.getElem?_append_left (by omega), List.getElem?_take, if_pos hj]
  · rename_i hj
    rw [List.getElem?_append_right (by omega), hl, List.getElem?_drop, show i + (j - i) = j by omega]
theorem upto_len {xs : List (Ltr × List UInt8)} {i : Nat} (h : i ≤ xs.length) : (upto xs i).length = xs.length := by
  unfold upto
  rw [List.length_append, List.length_take, List.length_drop, basedF_len, List.length_map]
  omega
theorem based_get {xs : List (Ltr × List UInt8)} {j : Nat} (h : j < xs.length) : (basedF xs)[j]? = some { xs[j].1 with base := (findT (xs.map Prod.fst) xs[j].2).getD 0 } := by
  unfold basedF
  rw [List.getElem?_map, List.getElem?_eq_getElem h]
  rfl
theorem upto_texts {xs : List (Ltr × List UInt8)} {i : Nat} (h : i ≤ xs.length) : texts (upto xs i) = texts (xs.map Prod.fst) := by
  apply List.ext_getElem?
  intro j
  simp only [texts, List.getElem?_map]
  rw [upto_get h]
  split
  · rename_i hj
    rw [based_get (by omega), List.getElem?_eq_getElem (by omega)]
    rfl
  · rw [List.getElem?_map]
theorem upto_step {xs : List (Ltr × List UInt8)} {i k : Nat} (h : i < xs.length) (hk : findT (xs.map Prod.fst) xs[i].2 = some k) (hl : i < (upto xs i).length) : (upto xs i).set i { (upto xs i)[i] with base := k } = upto xs (i + 1) := by
  have hx : (upto xs i)[i] = xs[i].1 := by
    have := upto_get (Nat.le_of_lt h) i
    rw [if_neg (by omega), List.getElem?_eq_getElem hl, List.getElem?_map, List.getElem?_eq_getElem h] at this
    exact Option.some.inj this
  rw [hx]
  apply List.ext_getElem?
  intro j
  rw [List.getElem?_set, upto_get h, upto_get (Nat.le_of_lt h), upto_len (Nat.le_of_lt h)]
  by_cases hj : i = j
  · subst hj
    rw [if_pos rfl, if_pos (by omega), if_pos (by omega), based_get h, hk]
    rfl
  · rw [if_neg hj]
    by_cases h2 : j < i
    · rw [if_pos h2, if_pos (by omega)]
    · rw [if_neg h2, if_neg (by omega)]
theorem valN_from : ∀ (s : List UInt8) (acc : Int), 0 ≤ acc → s.all dig = true → 0 ≤ s.foldl (fun n c => 10 * n + ((c.toNat : Int) - 48)) acc ∧ s.foldl (fun n c => 10 * n + ((c.toNat : Int) - 48)) acc < (acc + 1) * 10 ^ s.length
  | [], acc, h, _ => by simp; omega
  | c :: s, acc, h, hd => by
    simp only [List.all_cons, Bool.and_eq_true] at hd
    have h1 : 48 ≤ (c.toNat : Int) ∧ (c.toNat : Int) ≤ 57 := by
      have := hd.1
      unfold dig at this
      simpa using this
    obtain ⟨h2, h3⟩ := valN_from s (10 * acc + ((c.toNat : Int) - 48)) (by omega) hd.2
    refine ⟨h2, Int.lt_of_lt_of_le h3 ?_⟩
    rw [List.length_cons, Int.pow_succ, Int.mul_comm (10 ^ s.length) 10, ← Int.mul_assoc]
    exact Int.mul_le_mul_of_nonneg_right (by omega) (Int.pow_nonneg (by omega))
theorem numF_bd (s : List UInt8) : 0 ≤ (numF s).1 ∧ (numF s).1 < 1000000 := by
  unfold numF
  split
  · rename_i h
    unfold numB at h
    simp only [Bool.and_eq_true, decide_eq_true_eq] at h
    obtain ⟨h1, h2⟩ := valN_from s 0 (by omega) h.2
    have h3 : (10 : Int) ^ s.length ≤ 10 ^ 6 := by
      have : (10 : Nat) ^ s.length ≤ 10 ^ 6 := Nat.pow_le_pow_right (by omega) (by omega)
      exact_mod_cast this
    show 0 ≤ valN s ∧ valN s < 1000000
    unfold valN
    omega
  · simp
/-- Letters with small numbers. -/
def smallL (x : Ltr) : Prop := x.text.length ≤ 65536 ∧ (0 ≤ x.mark ∧ x.mark < 1000000) ∧ (0 ≤ x.case_ ∧ x.case_ < 1000000) ∧ (0 ≤ x.width ∧ x.width < 1000000)
theorem based_HA {xs : List (Ltr × List UInt8)} (hl : xs.length ≤ 65536) (h : ∀ x ∈ xs, smallL x.1) : HA (basedF xs) := by
  refine ⟨by rw [basedF_len]; omega, fun y hy => ?_⟩
  unfold basedF at hy
  obtain ⟨x, hx, rfl⟩ := List.mem_map.1 hy
  obtain ⟨h1, h2, h3, h4⟩ := h x hx
  refine ⟨?_, ⟨?_, ?_⟩, ?_, ?_⟩ <;> simp only <;> omega
section
variable {P : Program} {G : Globs} {σ : PState}
/-- A call to which letters in a row are lent. -/
theorem pcall_lts {fn : FuncId} {d : Option Tmp} {K : PState → Prop} {q : Bool} {A : Int} {t : TypeId} {a : List Ltr} {n : Nat} {v : Value} (hl : look σ.heap A = some ⟨t, true, 5, flatL a⟩) (hn : n = a.length)
    (hc : PCalls P G fn [ltsP a] [] (fun res H => res = .val v ∧ H = [])) (hk : K (PState.put σ d (.val v))) : @pcallI q P G σ d fn [.row A 5 n] ⟨K⟩ := by
  subst hn
  refine pcall_lend A _ hl (R := fun res H => res = .val v ∧ H = []) ?_ ?_
  · have := frz_lts A a
    simp only [frz] at this
    simp only [List.map_cons, List.map_nil]
    rw [this]
    exact hc
  · rintro res H ⟨rfl, rfl⟩
    exact ⟨rfl, .val v, hk⟩
end
theorem parse_c (G : Globs) (s : List UInt8) : PCalls Tryd.prog G 19 [pstr s] [] (fun res H => ∃ o, res = .tuple [o, pint .i64 (parseF s).2.1, pint .i64 (parseF s).2.2] ∧ CRL (parseF s).1 o H) := by
  (refine PCalls_f Tryd.func19 rfl Tryd.ntmps19 Tryd.results19 (by simp) fun fin hfin => ?_; have hnm : True := trivial; simp (maxSteps := 2000000) (disch := omega) only [evb, evd, pbuiltin, constPV, pnck, seqK, blockK, scopeK, pbin, pun, ppick, plen, piaddr, pindex, pfield, pslice, pbound, pconv, pelems, pextract, pmm, PV.mem?, PV.one, PV.cells, pageq, peqs, peq1, pmakes, pstore, pbytes, pmark, pusd, pust, psrc, pkey, pnile, pcap, pgrow, List.set, Value.cells, ↓popG_eq, ↓pop.eq_1, ↓List.getElem?_map, ↓List.getElem?_cons_zero, ↓List.getElem?_cons_succ, Value.oneCell', Nat.reduceAdd, Nat.reduceMul, Nat.reduceSub, Nat.reduceLeDiff, Nat.reduceEqDiff, ↓reduceIte, ne_eq, reduceCtorEq, forall_const, exists_and_left, exists_eq_left', eq_self, Nat.reduceLT, Int.reduceLT, Int.reduceLE, Int.reduceToNat, Int.reduceAdd, Int.reduceSub, Int.reduceNeg, hnm, Tryd.tf0, Tryd.tf1, Tryd.tf2, Tryd.tf3, Tryd.tf4, Tryd.tf9, Tryd.tf23, Tryd.tf26, Tryd.tf36, Tryd.tf45, Tryd.teq45, Tryd.tf56, Tryd.tf59, Tryd.tf64, Tryd.teq94, Tryd.teq104, Tryd.teq113, Tryd.teq114, Tryd.call37, Tryd.call38, Tryd.call39, Tryd.call40, Tryd.call42])
  repeat' (first
    | (with_reducible apply W_seq_k; intro nx hnx)
    | (with_reducible first | apply W_block | apply W_scope)
    | (with_reducible refine W_prune 567907468902246771870523037057021 ?_; simp only [prb, Nat.reducePow, Nat.reduceDiv, Nat.reduceMod, Nat.reduceBEq]; with_reducible apply W_region_l)
    | ((first | (with_reducible apply WL_op; intro nx hnx) | with_reducible refine Ev_out ?_ | (with_reducible refine pfresh_k hnm fun nm hnm => ?_; (try simp only [fmb] at hnm)) | (with_reducible refine pborn_mu hnm fun nm hnm => ?_; (try simp only [fmb] at hnm)) | (with_reducible refine pmaybe_k ?_; intro bn hbn)); try (simp (maxSteps := 2000000) (disch := omega) only [evb, evd, pbuiltin, constPV, pnck, seqK, blockK, scopeK, pbin, pun, ppick, plen, piaddr, pindex, pfield, pslice, pbound, pconv, pelems, pextract, pmm, PV.mem?, PV.one, PV.cells, pageq, peqs, peq1, pmakes, pstore, pbytes, pmark, pusd, pust, psrc, pkey, pnile, pcap, pgrow, List.set, Value.cells, ↓popG_eq, ↓pop.eq_1, ↓List.getElem?_map, ↓List.getElem?_cons_zero, ↓List.getElem?_cons_succ, Value.oneCell', Nat.reduceAdd, Nat.reduceMul, Nat.reduceSub, Nat.reduceLeDiff, Nat.reduceEqDiff, ↓reduceIte, ne_eq, reduceCtorEq, forall_const, exists_and_left, exists_eq_left', eq_self, Nat.reduceLT, Int.reduceLT, Int.reduceLE, Int.reduceToNat, Int.reduceAdd, Int.reduceSub, Int.reduceNeg, hnm, Tryd.tf0, Tryd.tf1, Tryd.tf2, Tryd.tf3, Tryd.tf4, Tryd.tf9, Tryd.tf23, Tryd.tf26, Tryd.tf36, Tryd.tf45, Tryd.teq45, Tryd.tf56, Tryd.tf59, Tryd.tf64, Tryd.teq94, Tryd.teq104, Tryd.teq113, Tryd.teq114, Tryd.call37, Tryd.call38, Tryd.call39, Tryd.call40, Tryd.call42]); repeat (refine And.intro (by omega) ?_))
    | ((with_reducible first | apply WL_nil | apply W_label | apply W_skip | apply W_exit | apply W_ret); try simp only [seqK, blockK, scopeK, ↓reduceIte, Nat.reduceEqDiff])
    | (with_reducible apply pguard_intro <;> (intro hc; (try simp only [hcb, reduceCtorEq, forall_const, ne_eq] at hc); first | (exfalso; omega) | (exfalso; exact hc trivial) | refine Ev_in ?_))
    | (with_reducible apply W_cond_k; intro _ _ ea eb; (simp only [condK, cob, opnd, constPV, Nat.reduceEqDiff, Nat.reduceLT, ↓reduceIte, hcb, reduceCtorEq, forall_const, ne_eq]); subst ea eb; first | (refine ⟨fun hc => ?_, fun hc => ?_⟩ <;> first | (exfalso; omega) | (exfalso; exact hc trivial) | skip) | skip)
    | (with_reducible apply hnx; clear hnx nx)
    | (with_reducible refine And.intro (by omega) ?_)
    | (with_reducible refine And.intro ?_ ?_)
    | (clear hnx nx; with_reducible apply hnx; clear hnx nx)
    | (clear hnx nx; clear hnx nx; with_reducible apply hnx; clear hnx nx)
    | (clear hnx nx; clear hnx nx; clear hnx nx; with_reducible apply hnx; clear hnx nx))
  all_goals first | exact absurd trivial hc | contradiction | exact fun h => False.elim h | (exfalso; omega) | (exfalso; have hc := of_decide_eq_false hc; omega) | (exfalso; simp only [Bool.not_false, Bool.not_true, decide_eq_true_eq, decide_eq_false_iff_not] at *; omega) | skip
  · have e : parseF s = ([], 0, 4) := by
      unfold parseF
      rw [if_pos (by omega)]
    refine hfin _ _ (Fin_ret3 rfl rfl rfl (Sub_nil _) ?_); simp only [List.getD_cons_zero, List.getD_cons_succ, fr_getD_cons, fr_getD_nil, Nat.reduceEqDiff, Nat.reduceLT, ↓reduceIte]
    rw [e]
    exact ⟨pnil, rfl, .inl ⟨rfl, rfl, by trivial⟩⟩
  have hs : s.length ≤ 65536 := by omega
  refine W_adopt_f 5 45 5 (by simp only [fr_getD_cons, Nat.reduceEqDiff, Nat.reduceLT, ↓reduceIte]) fun A0 hA => ?_
  refine W_adopt_f 6 9 1 (by simp only [fr_getD_cons, Nat.reduceEqDiff, Nat.reduceLT, ↓reduceIte]) fun B0 hB => ?_
  have hAB : (B0 = A0) = False ∧ (A0 = B0) = False := by
    simp only [names, List.map_cons, List.map_nil, List.mem_cons, List.not_mem_nil, or_false] at hB
    exact ⟨eq_false hB, eq_false fun e => hB e.symm⟩
  refine W_loop_k (fun z τ => ∃ (r : List UInt8) (xs : List (Ltr × List UInt8)) (A B : Int), ((B = A) = False ∧ (A = B) = False) ∧ z = r.length ∧ xs.length + r.length ≤ s.length ∧ readL (splitF 10 s) = (xs ++ (readL (splitF 10 r)).1, (readL (splitF 10 r)).2) ∧ (∀ x ∈ xs, smallL x.1) ∧ τ = parS s r xs A B) s.length
    (parS s s [] A0 B0) (by
    refine Wk_fr (by simp only [wkb, Nat.reduceEqDiff, Nat.reduceLT, ↓reduceIte, pn, List.length_nil]) ?_
    exact Sub_refl (by simp [names, hAB])) ⟨s, [], A0, B0, hAB, rfl, by simp, by simp, by simp, rfl⟩ ?_
  clear hAB hB hA hnm
  have hnm : True := trivial
  rintro z τ ⟨r, xs, A, B, hAB, rfl, hxl, hrd, hsm, rfl⟩ lp hlp
  by_cases hr0 : r = []
  · subst hr0
    have hrd : readL (splitF 10 s) = (xs, true) := by rw [hrd]; simp [splitF, readL]
    repeat' (first
    | (with_reducible apply W_seq_k; intro nx hnx)
    | (with_reducible first | apply W_block | apply W_scope)
    | (with_reducible refine W_prune 567907468902246771870523037057021 ?_; simp only [prb, Nat.reducePow, Nat.reduceDiv, Nat.reduceMod, Nat.reduceBEq]; with_reducible apply W_region_l)
    | ((first | (with_reducible apply WL_op; intro nx hnx) | with_reducible refine Ev_out ?_ | (with_reducible refine pfresh_k hnm fun nm hnm => ?_; (try simp only [fmb] at hnm)) | (with_reducible refine pborn_mu hnm fun nm hnm => ?_; (try simp only [fmb] at hnm)) | (with_reducible refine pmaybe_k ?_; intro bn hbn)); try (simp (maxSteps := 2000000) (disch := omega) only [evb, evd, pbuiltin, constPV, pnck, seqK, blockK, scopeK, pbin, pun, ppick, plen, piaddr, pindex, pfield, pslice, pbound, pconv, pelems, pextract, pmm, PV.mem?, PV.one, PV.cells, pageq, peqs, peq1, pmakes, pstore, pbytes, pmark, pusd, pust, psrc, pkey, pnile, pcap, pgrow, List.set, Value.cells, ↓popG_eq, ↓pop.eq_1, ↓List.getElem?_map, ↓List.getElem?_cons_zero, ↓List.getElem?_cons_succ, Value.oneCell', Nat.reduceAdd, Nat.reduceMul, Nat.reduceSub, Nat.reduceLeDiff, Nat.reduceEqDiff, ↓reduceIte, ne_eq, reduceCtorEq, forall_const, exists_and_left, exists_eq_left', eq_self, Nat.reduceLT, Int.reduceLT, Int.reduceLE, Int.reduceToNat, Int.reduceAdd, Int.reduceSub, Int.reduceNeg, hnm, Tryd.tf0, Tryd.tf1, Tryd.tf2, Tryd.tf3, Tryd.tf4, Tryd.tf9, Tryd.tf23, Tryd.tf26, Tryd.tf36, Tryd.tf45, Tryd.teq45, Tryd.tf56, Tryd.tf59, Tryd.tf64, Tryd.teq94, Tryd.teq104, Tryd.teq113, Tryd.teq114, Tryd.call37, Tryd.call38, Tryd.call39, Tryd.call40, Tryd.call42, hAB]); repeat (refine And.intro (by omega) ?_))
    | ((with_reducible first | apply WL_nil | apply W_label | apply W_skip | apply W_exit | apply W_ret); try simp only [seqK, blockK, scopeK, ↓reduceIte, Nat.reduceEqDiff])
    | (with_reducible apply pguard_intro <;> (intro hc; (try simp only [hcb, reduceCtorEq, forall_const, ne_eq] at hc); first | (exfalso; omega) | (exfalso; exact hc trivial) | refine Ev_in ?_))
    | (with_reducible apply W_cond_k; intro _ _ ea eb; (simp only [condK, cob, opnd, constPV, Nat.reduceEqDiff, Nat.reduceLT, ↓reduceIte, hcb, reduceCtorEq, forall_const, ne_eq]); subst ea eb; first | (refine ⟨fun hc => ?_, fun hc => ?_⟩ <;> first | (exfalso; omega) | (exfalso; exact hc trivial) | skip) | skip)
    | (with_reducible apply hnx; clear hnx nx)
    | (with_reducible refine And.intro (by omega) ?_)
    | (with_reducible refine And.intro ?_ ?_)
    | (clear hnx nx; with_reducible apply hnx; clear hnx nx)
    | (clear hnx nx; clear hnx nx; with_reducible apply hnx; clear hnx nx)
    | (clear hnx nx; clear hnx nx; clear hnx nx; with_reducible apply hnx; clear hnx nx))
    all_goals first | exact absurd trivial hc | contradiction | exact fun h => False.elim h | (exfalso; omega) | (exfalso; have hc := of_decide_eq_false hc; omega) | (exfalso; simp only [Bool.not_false, Bool.not_true, decide_eq_true_eq, decide_eq_false_iff_not] at *; omega) | skip
    refine W_loop_k (fun z τ => ∃ i : Nat, i ≤ xs.length ∧ z = xs.length - i ∧ (∀ x ∈ xs.take i, (findT (xs.map Prod.fst) x.2).isSome = true) ∧ τ = ⟨fr 130 [(108, pn i), (107, pint .i64 xs.length), (106, .row B 1 xs.length), (5, .row A 5 xs.length)], [(A, ⟨45, true, 5, flatL (upto xs i)⟩), (B, ⟨9, true, 1, secs xs⟩)]⟩) xs.length
      ⟨fr 130 [(108, pn 0), (107, pint .i64 xs.length), (106, .row B 1 xs.length), (5, .row A 5 xs.length)], [(A, ⟨45, true, 5, flatL (upto xs 0)⟩), (B, ⟨9, true, 1, secs xs⟩)]⟩ (by
      rw [upto_zero]
      refine Wk_fr (by simp only [wkb, Nat.reduceEqDiff, Nat.reduceLT, ↓reduceIte, pn]) ?_
      refine ⟨fun x hx => ?_, by simp [names, hAB]⟩
      simp only [List.mem_cons, List.not_mem_nil, or_false] at hx ⊢
      rcases hx with rfl | rfl
      · exact .inr rfl
      · exact .inl rfl) ⟨0, by omega, by omega, by simp, rfl⟩ ?_
    rintro z τ ⟨i, hi, rfl, hsome, rfl⟩ lp2 hlp2
    have hul := upto_len hi
    have hfl := flatL_len (upto xs i)
    rw [hul] at hfl
    have hlx : (secs xs).length = xs.length := List.length_map ..
    by_cases hil : i < xs.length
    · have hgb : (secs xs)[i]? = some (pstr xs[i].2) := by unfold secs; rw [List.getElem?_map, List.getElem?_eq_getElem hil]; rfl
      have cx := fun c : Int => indexFunc_c G (upto xs i) xs[i].2 A c (by omega)
      rw [hul] at cx
      cases hfk : findT (xs.map Prod.fst) xs[i].2 with
      | none =>
        have hid : idxT (upto xs i) xs[i].2 = -1 := by rw [idxT, findT_texts (upto_texts hi), hfk]
        rw [hid] at cx
        repeat' (first
    | (with_reducible apply W_seq_k; intro nx hnx)
    | (with_reducible first | apply W_block | apply W_scope)
    | (with_reducible refine W_prune 567907468902246771870523037057021 ?_; simp only [prb, Nat.reducePow, Nat.reduceDiv, Nat.reduceMod, Nat.reduceBEq]; with_reducible apply W_region_l)
    | ((first | (with_reducible apply WL_op; intro nx hnx) | with_reducible refine Ev_out ?_ | (with_reducible refine pfresh_k hnm fun nm hnm => ?_; (try simp only [fmb] at hnm)) | (with_reducible refine pborn_mu hnm fun nm hnm => ?_; (try simp only [fmb] at hnm)) | (with_reducible refine pmaybe_k ?_; intro bn hbn)); try (simp (maxSteps := 2000000) (disch := omega) only [evb, evd, pbuiltin, constPV, pnck, seqK, blockK, scopeK, pbin, pun, ppick, plen, piaddr, pindex, pfield, pslice, pbound, pconv, pelems, pextract, pmm, PV.mem?, PV.one, PV.cells, pageq, peqs, peq1, pmakes, pstore, pbytes, pmark, pusd, pust, psrc, pkey, pnile, pcap, pgrow, List.set, Value.cells, ↓popG_eq, ↓pop.eq_1, ↓List.getElem?_map, ↓List.getElem?_cons_zero, ↓List.getElem?_cons_succ, Value.oneCell', Nat.reduceAdd, Nat.reduceMul, Nat.reduceSub, Nat.reduceLeDiff, Nat.reduceEqDiff, ↓reduceIte, ne_eq, reduceCtorEq, forall_const, exists_and_left, exists_eq_left', eq_self, Nat.reduceLT, Int.reduceLT, Int.reduceLE, Int.reduceToNat, Int.reduceAdd, Int.reduceSub, Int.reduceNeg, hnm, Tryd.tf0, Tryd.tf1, Tryd.tf2, Tryd.tf3, Tryd.tf4, Tryd.tf9, Tryd.tf23, Tryd.tf26, Tryd.tf36, Tryd.tf45, Tryd.teq45, Tryd.tf56, Tryd.tf59, Tryd.tf64, Tryd.teq94, Tryd.teq104, Tryd.teq113, Tryd.teq114, Tryd.call37, Tryd.call38, Tryd.call39, Tryd.call40, Tryd.call42, hAB, hgb, hfl, hlx]); repeat (refine And.intro (by omega) ?_))
    | ((with_reducible first | apply WL_nil | apply W_label | apply W_skip | apply W_exit | apply W_ret); try simp only [seqK, blockK, scopeK, ↓reduceIte, Nat.reduceEqDiff])
    | (with_reducible apply pguard_intro <;> (intro hc; (try simp only [hcb, reduceCtorEq, forall_const, ne_eq] at hc); first | (exfalso; omega) | (exfalso; exact hc trivial) | refine Ev_in ?_))
    | (with_reducible apply W_cond_k; intro _ _ ea eb; (simp only [condK, cob, opnd, constPV, Nat.reduceEqDiff, Nat.reduceLT, ↓reduceIte, hcb, reduceCtorEq, forall_const, ne_eq]); subst ea eb; first | (refine ⟨fun hc => ?_, fun hc => ?_⟩ <;> first | (exfalso; omega) | (exfalso; exact hc trivial) | skip) | skip)
    | (with_reducible apply hnx; clear hnx nx)
    | (with_reducible refine And.intro (by omega) ?_)
    | (with_reducible refine And.intro ?_ ?_)
    | ((refine pcall_midn [] [_, _] [_] rfl (cx _) ?_; rintro _ _ ⟨rfl, rfl⟩ -; refine Ev_in ?_))
    | (clear hnx nx; with_reducible apply hnx; clear hnx nx)
    | (clear hnx nx; clear hnx nx; with_reducible apply hnx; clear hnx nx)
    | (clear hnx nx; clear hnx nx; clear hnx nx; with_reducible apply hnx; clear hnx nx))
        all_goals first | exact absurd trivial hc | contradiction | exact fun h => False.elim h | (exfalso; omega) | (exfalso; have hc := of_decide_eq_false hc; omega) | (exfalso; simp only [Bool.not_false, Bool.not_true, decide_eq_true_eq, decide_eq_false_iff_not] at *; omega) | skip
        all_goals
          refine hfin _ _ (Fin_ret3 rfl rfl rfl (Sub_nil _) ?_); simp only [List.getD_cons_zero, List.getD_cons_succ, fr_getD_cons, fr_getD_nil, Nat.reduceEqDiff, Nat.reduceLT, ↓reduceIte]
          rw [parseF_none hs hrd hil hfk hsome]
          exact ⟨pnil, rfl, .inl ⟨rfl, rfl, by trivial⟩⟩
      | some kk =>
        have hid : idxT (upto xs i) xs[i].2 = kk := by rw [idxT, findT_texts (upto_texts hi), hfk]
        rw [hid] at cx
        have hbase := flatL_base (l := upto xs i) (i := i) (by omega) kk
        rw [upto_step hil hfk (by omega)] at hbase
        repeat' (first
    | (with_reducible apply W_seq_k; intro nx hnx)
    | (with_reducible first | apply W_block | apply W_scope)
    | (with_reducible refine W_prune 567907468902246771870523037057021 ?_; simp only [prb, Nat.reducePow, Nat.reduceDiv, Nat.reduceMod, Nat.reduceBEq]; with_reducible apply W_region_l)
    | ((first | (with_reducible apply WL_op; intro nx hnx) | with_reducible refine Ev_out ?_ | (with_reducible refine pfresh_k hnm fun nm hnm => ?_; (try simp only [fmb] at hnm)) | (with_reducible refine pborn_mu hnm fun nm hnm => ?_; (try simp only [fmb] at hnm)) | (with_reducible refine pmaybe_k ?_; intro bn hbn)); try (simp (maxSteps := 2000000) (disch := omega) only [evb, evd, pbuiltin, constPV, pnck, seqK, blockK, scopeK, pbin, pun, ppick, plen, piaddr, pindex, pfield, pslice, pbound, pconv, pelems, pextract, pmm, PV.mem?, PV.one, PV.cells, pageq, peqs, peq1, pmakes, pstore, pbytes, pmark, pusd, pust, psrc, pkey, pnile, pcap, pgrow, List.set, Value.cells, ↓popG_eq, ↓pop.eq_1, ↓List.getElem?_map, ↓List.getElem?_cons_zero, ↓List.getElem?_cons_succ, Value.oneCell', Nat.reduceAdd, Nat.reduceMul, Nat.reduceSub, Nat.reduceLeDiff, Nat.reduceEqDiff, ↓reduceIte, ne_eq, reduceCtorEq, forall_const, exists_and_left, exists_eq_left', eq_self, Nat.reduceLT, Int.reduceLT, Int.reduceLE, Int.reduceToNat, Int.reduceAdd, Int.reduceSub, Int.reduceNeg, hnm, Tryd.tf0, Tryd.tf1, Tryd.tf2, Tryd.tf3, Tryd.tf4, Tryd.tf9, Tryd.tf23, Tryd.tf26, Tryd.tf36, Tryd.tf45, Tryd.teq45, Tryd.tf56, Tryd.tf59, Tryd.tf64, Tryd.teq94, Tryd.teq104, Tryd.teq113, Tryd.teq114, Tryd.call37, Tryd.call38, Tryd.call39, Tryd.call40, Tryd.call42, hAB, hgb, hfl, hlx, hbase]); repeat (refine And.intro (by omega) ?_))
    | ((with_reducible first | apply WL_nil | apply W_label | apply W_skip | apply W_exit | apply W_ret); try simp only [seqK, blockK, scopeK, ↓reduceIte, Nat.reduceEqDiff])
    | (with_reducible apply pguard_intro <;> (intro hc; (try simp only [hcb, reduceCtorEq, forall_const, ne_eq] at hc); first | (exfalso; omega) | (exfalso; exact hc trivial) | refine Ev_in ?_))
    | (with_reducible apply W_cond_k; intro _ _ ea eb; (simp only [condK, cob, opnd, constPV, Nat.reduceEqDiff, Nat.reduceLT, ↓reduceIte, hcb, reduceCtorEq, forall_const, ne_eq]); subst ea eb; first | (refine ⟨fun hc => ?_, fun hc => ?_⟩ <;> first | (exfalso; omega) | (exfalso; exact hc trivial) | skip) | skip)
    | (with_reducible apply hnx; clear hnx nx)
    | (with_reducible refine And.intro (by omega) ?_)
    | (with_reducible refine And.intro ?_ ?_)
    | ((refine pcall_midn [] [_, _] [_] rfl (cx _) ?_; rintro _ _ ⟨rfl, rfl⟩ -; refine Ev_in ?_))
    | (clear hnx nx; with_reducible apply hnx; clear hnx nx)
    | (clear hnx nx; clear hnx nx; with_reducible apply hnx; clear hnx nx)
    | (clear hnx nx; clear hnx nx; clear hnx nx; with_reducible apply hnx; clear hnx nx))
        all_goals first | exact absurd trivial hc | contradiction | exact fun h => False.elim h | (exfalso; omega) | (exfalso; have hc := of_decide_eq_false hc; omega) | (exfalso; simp only [Bool.not_false, Bool.not_true, decide_eq_true_eq, decide_eq_false_iff_not] at *; omega) | skip
        refine hlp2 _ (xs.length - (i + 1)) ⟨fr 130 [(108, pn (i + 1)), (107, pint .i64 xs.length), (106, .row B 1 xs.length), (5, .row A 5 xs.length)], [(A, ⟨45, true, 5, flatL (upto xs (i + 1))⟩), (B, ⟨9, true, 1, secs xs⟩)]⟩ (by omega) ?_ ⟨i + 1, by omega, rfl, ?_, rfl⟩
        · refine Wk_fr (by simp only [wkb, Nat.reduceEqDiff, Nat.reduceLT, ↓reduceIte, pn]) ?_
          exact ⟨fun x hx => List.mem_cons_of_mem _ hx, by simp [names, hAB]⟩
        · intro x hx
          rw [List.take_add_one, List.getElem?_eq_getElem hil, List.mem_append] at hx
          rcases hx with hx | hx
          · exact hsome x hx
          · simp only [Option.toList_some, List.mem_singleton] at hx
            rw [hx, hfk]
            rfl
    · have hi2 : i = xs.length := by omega
      subst hi2
      have cv := valid_c G (basedF xs) (based_HA (by omega) hsm)
      rw [List.take_length] at hsome
      have hok := parseF_ok hs hrd hsome
      rw [upto_full] at hfl
      rw [upto_full]
      repeat' (first
    | (with_reducible apply W_seq_k; intro nx hnx)
    | (with_reducible first | apply W_block | apply W_scope)
    | (with_reducible refine W_prune 567907468902246771870523037057021 ?_; simp only [prb, Nat.reducePow, Nat.reduceDiv, Nat.reduceMod, Nat.reduceBEq]; with_reducible apply W_region_l)
    | ((first | (with_reducible apply WL_op; intro nx hnx) | with_reducible refine Ev_out ?_ | (with_reducible refine pfresh_k hnm fun nm hnm => ?_; (try simp only [fmb] at hnm)) | (with_reducible refine pborn_mu hnm fun nm hnm => ?_; (try simp only [fmb] at hnm)) | (with_reducible refine pmaybe_k ?_; intro bn hbn)); try (simp (maxSteps := 2000000) (disch := omega) only [evb, evd, pbuiltin, constPV, pnck, seqK, blockK, scopeK, pbin, pun, ppick, plen, piaddr, pindex, pfield, pslice, pbound, pconv, pelems, pextract, pmm, PV.mem?, PV.one, PV.cells, pageq, peqs, peq1, pmakes, pstore, pbytes, pmark, pusd, pust, psrc, pkey, pnile, pcap, pgrow, List.set, Value.cells, ↓popG_eq, ↓pop.eq_1, ↓List.getElem?_map, ↓List.getElem?_cons_zero, ↓List.getElem?_cons_succ, Value.oneCell', Nat.reduceAdd, Nat.reduceMul, Nat.reduceSub, Nat.reduceLeDiff, Nat.reduceEqDiff, ↓reduceIte, ne_eq, reduceCtorEq, forall_const, exists_and_left, exists_eq_left', eq_self, Nat.reduceLT, Int.reduceLT, Int.reduceLE, Int.reduceToNat, Int.reduceAdd, Int.reduceSub, Int.reduceNeg, hnm, Tryd.tf0, Tryd.tf1, Tryd.tf2, Tryd.tf3, Tryd.tf4, Tryd.tf9, Tryd.tf23, Tryd.tf26, Tryd.tf36, Tryd.tf45, Tryd.teq45, Tryd.tf56, Tryd.tf59, Tryd.tf64, Tryd.teq94, Tryd.teq104, Tryd.teq113, Tryd.teq114, Tryd.call37, Tryd.call38, Tryd.call39, Tryd.call40, Tryd.call42, hAB, hfl]); repeat (refine And.intro (by omega) ?_))
    | ((with_reducible first | apply WL_nil | apply W_label | apply W_skip | apply W_exit | apply W_ret); try simp only [seqK, blockK, scopeK, ↓reduceIte, Nat.reduceEqDiff])
    | (with_reducible apply pguard_intro <;> (intro hc; (try simp only [hcb, reduceCtorEq, forall_const, ne_eq] at hc); first | (exfalso; omega) | (exfalso; exact hc trivial) | refine Ev_in ?_))
    | (with_reducible apply W_cond_k; intro _ _ ea eb; (simp only [condK, cob, opnd, constPV, Nat.reduceEqDiff, Nat.reduceLT, ↓reduceIte, hcb, reduceCtorEq, forall_const, ne_eq]); subst ea eb; first | (refine ⟨fun hc => ?_, fun hc => ?_⟩ <;> first | (exfalso; omega) | (exfalso; exact hc trivial) | skip) | skip)
    | (with_reducible apply hnx; clear hnx nx)
    | (with_reducible refine And.intro (by omega) ?_)
    | (with_reducible refine And.intro ?_ ?_)
    | ((refine pcall_lts (t := 45) (a := basedF xs) (by simp only [look, if_true]) (by rw [basedF_len]) cv ?_; refine Ev_in ?_))
    | (clear hnx nx; with_reducible apply hnx; clear hnx nx)
    | (clear hnx nx; clear hnx nx; with_reducible apply hnx; clear hnx nx)
    | (clear hnx nx; clear hnx nx; clear hnx nx; with_reducible apply hnx; clear hnx nx))
      all_goals first | exact absurd trivial hc | contradiction | exact fun h => False.elim h | (exfalso; omega) | (exfalso; have hc := of_decide_eq_false hc; omega) | (exfalso; simp only [Bool.not_false, Bool.not_true, decide_eq_true_eq, decide_eq_false_iff_not] at *; omega) | skip
      · rw [hc, if_neg (by simp)] at hok
        refine hfin _ _ (Fin_ret3 rfl rfl rfl (Sub_nil _) ?_); simp only [List.getD_cons_zero, List.getD_cons_succ, fr_getD_cons, fr_getD_nil, Nat.reduceEqDiff, Nat.reduceLT, ↓reduceIte]
        rw [hok]
        exact ⟨pnil, rfl, .inl ⟨rfl, rfl, by trivial⟩⟩
      · rw [hc, if_pos rfl] at hok
        refine hfin _ _ (Fin_ret3 rfl rfl rfl (H := [(A, ⟨45, true, 5, flatL (basedF xs)⟩)]) ⟨fun x hx => ?_, by simp [names]⟩ ?_)
        · simp only [List.mem_cons, List.not_mem_nil, or_false] at hx ⊢
          exact .inl hx
        · simp only [fr_getD_cons, Nat.reduceEqDiff, Nat.reduceLT, ↓reduceIte]
          rw [hok]
          exact ⟨.row A 5 xs.length, rfl, .inr ⟨A, by rw [basedF_len], rfl⟩⟩
  · have cc := cut_c G r 10 (by omega)
    have hst := splitF_step (c := 10) hr0
    have htl := cutF_le r 10
    obtain ⟨⟨t, r', e⟩, hcut⟩ : ∃ q, q = cutF r 10 := ⟨_, rfl⟩
    rw [← hcut] at cc hst htl
    simp only at cc hst htl
    have cs := split_c G t 32 (by omega)
    have hle := splitF_mem 32 t
    have hll : (flatL (xs.map Prod.fst)).length = xs.length * 5 := by rw [flatL_len, List.length_map]
    have hlx : (secs xs).length = xs.length := List.length_map ..
    have hsnoc2 : ∀ x : Ltr × List UInt8, secs (xs ++ [x]) = secs xs ++ [pstr x.2] := fun x => by simp [secs]
    have hsnoc1 : ∀ x : Ltr × List UInt8, flatL ((xs ++ [x]).map Prod.fst) = flatL (xs.map Prod.fst) ++ cellL x.1 := fun x => by
      rw [List.map_append]
      exact flatL_snoc _ _
    rcases hst with ⟨rfl, h1, h2, h3⟩ | ⟨rfl, h1⟩
    · by_cases h5 : (splitF 32 t).length = 5
      · obtain ⟨x, b, m, k, w, hsp⟩ := five h5
        have hln := lineF_five hsp
        rw [hsp] at cs hle
        have n1 := number_c G m (by have := hle m (by simp); omega)
        have n2 := number_c G k (by have := hle k (by simp); omega)
        have n3 := number_c G w (by have := hle w (by simp); omega)
        simp only [List.map_cons, List.map_nil] at cs
        repeat' (first
    | (with_reducible apply W_seq_k; intro nx hnx)
    | (with_reducible first | apply W_block | apply W_scope)
    | (with_reducible refine W_prune 567907468902246771870523037057021 ?_; simp only [prb, Nat.reducePow, Nat.reduceDiv, Nat.reduceMod, Nat.reduceBEq]; with_reducible apply W_region_l)
    | ((first | (with_reducible apply WL_op; intro nx hnx) | with_reducible refine Ev_out ?_ | (with_reducible refine pfresh_k hnm fun nm hnm => ?_; (try simp only [fmb] at hnm)) | (with_reducible refine pborn_mu hnm fun nm hnm => ?_; (try simp only [fmb] at hnm)) | (with_reducible refine pmaybe_k ?_; intro bn hbn)); try (simp (maxSteps := 2000000) (disch := omega) only [evb, evd, pbuiltin, constPV, pnck, seqK, blockK, scopeK, pbin, pun, ppick, plen, piaddr, pindex, pfield, pslice, pbound, pconv, pelems, pextract, pmm, PV.mem?, PV.one, PV.cells, pageq, peqs, peq1, pmakes, pstore, pbytes, pmark, pusd, pust, psrc, pkey, pnile, pcap, pgrow, List.set, Value.cells, ↓popG_eq, ↓pop.eq_1, ↓List.getElem?_map, ↓List.getElem?_cons_zero, ↓List.getElem?_cons_succ, Value.oneCell', Nat.reduceAdd, Nat.reduceMul, Nat.reduceSub, Nat.reduceLeDiff, Nat.reduceEqDiff, ↓reduceIte, ne_eq, reduceCtorEq, forall_const, exists_and_left, exists_eq_left', eq_self, Nat.reduceLT, Int.reduceLT, Int.reduceLE, Int.reduceToNat, Int.reduceAdd, Int.reduceSub, Int.reduceNeg, hnm, Tryd.tf0, Tryd.tf1, Tryd.tf2, Tryd.tf3, Tryd.tf4, Tryd.tf9, Tryd.tf23, Tryd.tf26, Tryd.tf36, Tryd.tf45, Tryd.teq45, Tryd.tf56, Tryd.tf59, Tryd.tf64, Tryd.teq94, Tryd.teq104, Tryd.teq113, Tryd.teq114, Tryd.call37, Tryd.call38, Tryd.call39, Tryd.call40, Tryd.call42, hAB, hr0, List.length_map, hll, hlx]); repeat (refine And.intro (by omega) ?_))
    | ((with_reducible first | apply WL_nil | apply W_label | apply W_skip | apply W_exit | apply W_ret); try simp only [seqK, blockK, scopeK, ↓reduceIte, Nat.reduceEqDiff])
    | (with_reducible apply pguard_intro <;> (intro hc; (try simp only [hcb, reduceCtorEq, forall_const, ne_eq] at hc); first | (exfalso; omega) | (exfalso; exact hc trivial) | refine Ev_in ?_))
    | (with_reducible apply W_cond_k; intro _ _ ea eb; (simp only [condK, cob, opnd, constPV, Nat.reduceEqDiff, Nat.reduceLT, ↓reduceIte, hcb, reduceCtorEq, forall_const, ne_eq]); subst ea eb; first | (refine ⟨fun hc => ?_, fun hc => ?_⟩ <;> first | (exfalso; omega) | (exfalso; exact hc trivial) | skip) | skip)
    | (with_reducible apply hnx; clear hnx nx)
    | (with_reducible refine And.intro (by omega) ?_)
    | (with_reducible refine And.intro ?_ ?_)
    | (with_reducible refine pcall_k (cc) ?_; rintro _ _ ⟨rfl, rfl⟩ -; refine Ev_in ?_)
    | (with_reducible refine pcall_k (cs) ?_; rintro _ _ ⟨rfl, rfl⟩ -; refine Ev_in ?_)
    | (with_reducible refine pcall_k (n1) ?_; rintro _ _ ⟨rfl, rfl⟩ -; refine Ev_in ?_)
    | (with_reducible refine pcall_k (n2) ?_; rintro _ _ ⟨rfl, rfl⟩ -; refine Ev_in ?_)
    | (with_reducible refine pcall_k (n3) ?_; rintro _ _ ⟨rfl, rfl⟩ -; refine Ev_in ?_)
    | (clear hnx nx; with_reducible apply hnx; clear hnx nx)
    | (clear hnx nx; clear hnx nx; with_reducible apply hnx; clear hnx nx)
    | (clear hnx nx; clear hnx nx; clear hnx nx; with_reducible apply hnx; clear hnx nx))
        all_goals first | exact absurd trivial hc | contradiction | exact fun h => False.elim h | (exfalso; omega) | (exfalso; have hc := of_decide_eq_false hc; omega) | (exfalso; simp only [Bool.not_false, Bool.not_true, decide_eq_true_eq, decide_eq_false_iff_not] at *; omega) | skip
        all_goals first
          | (have hn : lineF t = none := by
               rw [hln]
               simp_all
             rw [h1, readL_none splitF_ne hn, List.append_nil] at hrd
             refine hfin _ _ (Fin_ret3 rfl rfl rfl (Sub_nil _) ?_); simp only [List.getD_cons_zero, List.getD_cons_succ, fr_getD_cons, fr_getD_nil, Nat.reduceEqDiff, Nat.reduceLT, ↓reduceIte]
             rw [parseF_bad hs hrd]
             exact ⟨pnil, rfl, .inl ⟨rfl, rfl, by trivial⟩⟩)
          | skip
        have hn : lineF t = some (⟨x, 0, (numF m).1, (numF k).1, (numF w).1⟩, b) := by
          rw [hln]
          simp_all
        rename_i N0 g0 N1 g1 N2 g2
        rw [h1, readL_some splitF_ne hn, List.append_cons] at hrd
        refine hlp _ r'.length (parS s r' (xs ++ [(⟨x, 0, (numF m).1, (numF k).1, (numF w).1⟩, b)]) N1 nm) (by omega) ?_ ⟨r', _, N1, nm, by simp [hnm], rfl, by simp; omega, hrd, ?_, rfl⟩
        · rw [parS, hsnoc1, hsnoc2]
          refine Wk_fr (by simp only [wkb, Nat.reduceEqDiff, Nat.reduceLT, ↓reduceIte, pn, List.length_append, List.length_singleton]) ?_
          refine ⟨fun x hx => ?_, by simp [names, hnm]⟩
          simp only [List.mem_cons, List.not_mem_nil, or_false] at hx ⊢
          rcases hx with rfl | rfl
          · exact .inl rfl
          · exact .inr (.inr (.inl rfl))
        · intro y hy
          rw [List.mem_append, List.mem_singleton] at hy
          rcases hy with hy | rfl
          · exact hsm y hy
          · have := hle x (by simp)
            exact ⟨by simp only; omega, numF_bd m, numF_bd k, numF_bd w⟩
      · have hln := lineF_not h5
        rw [h1, readL_none splitF_ne hln, List.append_nil] at hrd
        repeat' (first
    | (with_reducible apply W_seq_k; intro nx hnx)
    | (with_reducible first | apply W_block | apply W_scope)
    | (with_reducible refine W_prune 567907468902246771870523037057021 ?_; simp only [prb, Nat.reducePow, Nat.reduceDiv, Nat.reduceMod, Nat.reduceBEq]; with_reducible apply W_region_l)
    | ((first | (with_reducible apply WL_op; intro nx hnx) | with_reducible refine Ev_out ?_ | (with_reducible refine pfresh_k hnm fun nm hnm => ?_; (try simp only [fmb] at hnm)) | (with_reducible refine pborn_mu hnm fun nm hnm => ?_; (try simp only [fmb] at hnm)) | (with_reducible refine pmaybe_k ?_; intro bn hbn)); try (simp (maxSteps := 2000000) (disch := omega) only [evb, evd, pbuiltin, constPV, pnck, seqK, blockK, scopeK, pbin, pun, ppick, plen, piaddr, pindex, pfield, pslice, pbound, pconv, pelems, pextract, pmm, PV.mem?, PV.one, PV.cells, pageq, peqs, peq1, pmakes, pstore, pbytes, pmark, pusd, pust, psrc, pkey, pnile, pcap, pgrow, List.set, Value.cells, ↓popG_eq, ↓pop.eq_1, ↓List.getElem?_map, ↓List.getElem?_cons_zero, ↓List.getElem?_cons_succ, Value.oneCell', Nat.reduceAdd, Nat.reduceMul, Nat.reduceSub, Nat.reduceLeDiff, Nat.reduceEqDiff, ↓reduceIte, ne_eq, reduceCtorEq, forall_const, exists_and_left, exists_eq_left', eq_self, Nat.reduceLT, Int.reduceLT, Int.reduceLE, Int.reduceToNat, Int.reduceAdd, Int.reduceSub, Int.reduceNeg, hnm, Tryd.tf0, Tryd.tf1, Tryd.tf2, Tryd.tf3, Tryd.tf4, Tryd.tf9, Tryd.tf23, Tryd.tf26, Tryd.tf36, Tryd.tf45, Tryd.teq45, Tryd.tf56, Tryd.tf59, Tryd.tf64, Tryd.teq94, Tryd.teq104, Tryd.teq113, Tryd.teq114, Tryd.call37, Tryd.call38, Tryd.call39, Tryd.call40, Tryd.call42, hAB, hr0, List.length_map]); repeat (refine And.intro (by omega) ?_))
    | ((with_reducible first | apply WL_nil | apply W_label | apply W_skip | apply W_exit | apply W_ret); try simp only [seqK, blockK, scopeK, ↓reduceIte, Nat.reduceEqDiff])
    | (with_reducible apply pguard_intro <;> (intro hc; (try simp only [hcb, reduceCtorEq, forall_const, ne_eq] at hc); first | (exfalso; omega) | (exfalso; exact hc trivial) | refine Ev_in ?_))
    | (with_reducible apply W_cond_k; intro _ _ ea eb; (simp only [condK, cob, opnd, constPV, Nat.reduceEqDiff, Nat.reduceLT, ↓reduceIte, hcb, reduceCtorEq, forall_const, ne_eq]); subst ea eb; first | (refine ⟨fun hc => ?_, fun hc => ?_⟩ <;> first | (exfalso; omega) | (exfalso; exact hc trivial) | skip) | skip)
    | (with_reducible apply hnx; clear hnx nx)
    | (with_reducible refine And.intro (by omega) ?_)
    | (with_reducible refine And.intro ?_ ?_)
    | (with_reducible refine pcall_k (cc) ?_; rintro _ _ ⟨rfl, rfl⟩ -; refine Ev_in ?_)
    | (with_reducible refine pcall_k (cs) ?_; rintro _ _ ⟨rfl, rfl⟩ -; refine Ev_in ?_)
    | (clear hnx nx; with_reducible apply hnx; clear hnx nx)
    | (clear hnx nx; clear hnx nx; with_reducible apply hnx; clear hnx nx)
    | (clear hnx nx; clear hnx nx; clear hnx nx; with_reducible apply hnx; clear hnx nx))
        all_goals first | exact absurd trivial hc | contradiction | exact fun h => False.elim h | (exfalso; omega) | (exfalso; have hc := of_decide_eq_false hc; omega) | (exfalso; simp only [Bool.not_false, Bool.not_true, decide_eq_true_eq, decide_eq_false_iff_not] at *; omega) | skip
        all_goals
          refine hfin _ _ (Fin_ret3 rfl rfl rfl (Sub_nil _) ?_); simp only [List.getD_cons_zero, List.getD_cons_succ, fr_getD_cons, fr_getD_nil, Nat.reduceEqDiff, Nat.reduceLT, ↓reduceIte]
          rw [parseF_bad hs hrd]
          exact ⟨pnil, rfl, .inl ⟨rfl, rfl, by trivial⟩⟩
    · have : (readL [r]) = ([], false) := by simp [readL, hr0]
      rw [h1, this, List.append_nil] at hrd
      repeat' (first
    | (with_reducible apply W_seq_k; intro nx hnx)
    | (with_reducible first | apply W_block | apply W_scope)
    | (with_reducible refine W_prune 567907468902246771870523037057021 ?_; simp only [prb, Nat.reducePow, Nat.reduceDiv, Nat.reduceMod, Nat.reduceBEq]; with_reducible apply W_region_l)
    | ((first | (with_reducible apply WL_op; intro nx hnx) | with_reducible refine Ev_out ?_ | (with_reducible refine pfresh_k hnm fun nm hnm => ?_; (try simp only [fmb] at hnm)) | (with_reducible refine pborn_mu hnm fun nm hnm => ?_; (try simp only [fmb] at hnm)) | (with_reducible refine pmaybe_k ?_; intro bn hbn)); try (simp (maxSteps := 2000000) (disch := omega) only [evb, evd, pbuiltin, constPV, pnck, seqK, blockK, scopeK, pbin, pun, ppick, plen, piaddr, pindex, pfield, pslice, pbound, pconv, pelems, pextract, pmm, PV.mem?, PV.one, PV.cells, pageq, peqs, peq1, pmakes, pstore, pbytes, pmark, pusd, pust, psrc, pkey, pnile, pcap, pgrow, List.set, Value.cells, ↓popG_eq, ↓pop.eq_1, ↓List.getElem?_map, ↓List.getElem?_cons_zero, ↓List.getElem?_cons_succ, Value.oneCell', Nat.reduceAdd, Nat.reduceMul, Nat.reduceSub, Nat.reduceLeDiff, Nat.reduceEqDiff, ↓reduceIte, ne_eq, reduceCtorEq, forall_const, exists_and_left, exists_eq_left', eq_self, Nat.reduceLT, Int.reduceLT, Int.reduceLE, Int.reduceToNat, Int.reduceAdd, Int.reduceSub, Int.reduceNeg, hnm, Tryd.tf0, Tryd.tf1, Tryd.tf2, Tryd.tf3, Tryd.tf4, Tryd.tf9, Tryd.tf23, Tryd.tf26, Tryd.tf36, Tryd.tf45, Tryd.teq45, Tryd.tf56, Tryd.tf59, Tryd.tf64, Tryd.teq94, Tryd.teq104, Tryd.teq113, Tryd.teq114, Tryd.call37, Tryd.call38, Tryd.call39, Tryd.call40, Tryd.call42, hAB, hr0, List.length_map]); repeat (refine And.intro (by omega) ?_))
    | ((with_reducible first | apply WL_nil | apply W_label | apply W_skip | apply W_exit | apply W_ret); try simp only [seqK, blockK, scopeK, ↓reduceIte, Nat.reduceEqDiff])
    | (with_reducible apply pguard_intro <;> (intro hc; (try simp only [hcb, reduceCtorEq, forall_const, ne_eq] at hc); first | (exfalso; omega) | (exfalso; exact hc trivial) | refine Ev_in ?_))
    | (with_reducible apply W_cond_k; intro _ _ ea eb; (simp only [condK, cob, opnd, constPV, Nat.reduceEqDiff, Nat.reduceLT, ↓reduceIte, hcb, reduceCtorEq, forall_const, ne_eq]); subst ea eb; first | (refine ⟨fun hc => ?_, fun hc => ?_⟩ <;> first | (exfalso; omega) | (exfalso; exact hc trivial) | skip) | skip)
    | (with_reducible apply hnx; clear hnx nx)
    | (with_reducible refine And.intro (by omega) ?_)
    | (with_reducible refine And.intro ?_ ?_)
    | (with_reducible refine pcall_k (cc) ?_; rintro _ _ ⟨rfl, rfl⟩ -; refine Ev_in ?_)
    | (with_reducible refine pcall_k (cs) ?_; rintro _ _ ⟨rfl, rfl⟩ -; refine Ev_in ?_)
    | (clear hnx nx; with_reducible apply hnx; clear hnx nx)
    | (clear hnx nx; clear hnx nx; with_reducible apply hnx; clear hnx nx)
    | (clear hnx nx; clear hnx nx; clear hnx nx; with_reducible apply hnx; clear hnx nx))
      all_goals first | exact absurd trivial hc | contradiction | exact fun h => False.elim h | (exfalso; omega) | (exfalso; have hc := of_decide_eq_false hc; omega) | (exfalso; simp only [Bool.not_false, Bool.not_true, decide_eq_true_eq, decide_eq_false_iff_not] at *; omega) | skip
      all_goals
        refine hfin _ _ (Fin_ret3 rfl rfl rfl (Sub_nil _) ?_); simp only [List.getD_cons_zero, List.getD_cons_succ, fr_getD_cons, fr_getD_nil, Nat.reduceEqDiff, Nat.reduceLT, ↓reduceIte]
        rw [parseF_bad hs hrd]
        exact ⟨pnil, rfl, .inl ⟨rfl, rfl, by trivial⟩⟩
theorem Px.nil3 {G : Globs} (es : Nat) (q r : PV) (H : Heap) : Px G (.tuple [pnil, q, r]) H (.tuple [.list es [], q, r]) H := fun _ _ A _ w v hs hr => by
  refine ⟨A, hs, ?_⟩
  cases hr with
  | tuple cs f h2 =>
    refine .tuple [.list es [], q, r] f fun j u hu => ?_
    match j with
    | 0 =>
      cases hu
      exact nil_list es (h2 0 pnil rfl)
    | j + 1 => exact h2 (j + 1) u hu
/-- A result of three parts, the first of which is letters in a row. -/
theorem CRL.frz3 {G : Globs} {f : FuncId} {args : List PV} {b : List Ltr} {j k : Int} (h : PCalls Tryd.prog G f args [] (fun res H => ∃ o, res = .tuple [o, pint .i64 j, pint .i64 k] ∧ CRL b o H)) : PCalls Tryd.prog G f args [] (fun res H => res = .tuple [ltsP b, pint .i64 j, pint .i64 k] ∧ H = []) := by
  refine h.px fun res H hR => ?_
  obtain ⟨o, rfl, hR⟩ := hR
  rcases hR with ⟨rfl, rfl, rfl⟩ | ⟨N, rfl, rfl⟩
  · exact ⟨_, _, Px.nil3 5 _ _ _, rfl, rfl⟩
  · have h2 := Px.freeze (G := G) (.tuple [.row N 5 b.length, pint .i64 j, pint .i64 k]) [(N, ⟨45, true, 5, flatL b⟩)] N (o := ⟨45, true, 5, flatL b⟩) (by simp only [look, if_true]) (by simp [frzOk, del])
    refine ⟨_, _, h2, ?_, by simp [frzH, del]⟩
    have := frz_lts N b
    simp only [PM.frz] at this
    simp only [PM.frz, List.map_cons, List.map_nil, this]
    simp only [frz1]
theorem parse_f (G : Globs) (s : List UInt8) : PCalls Tryd.prog G 19 [pstr s] [] (fun res H => res = .tuple [ltsP (parseF s).1, pint .i64 (parseF s).2.1, pint .i64 (parseF s).2.2] ∧ H = []) := CRL.frz3 (parse_c G s)
end Go.PM

namespace Go.PM
open Go.Proofs
attribute [local irreducible] W PCalls pcall pcallI WL
set_option maxRecDepth 100000
set_option maxHeartbeats 8000000
def exA : List Ltr := [⟨[99], 0, 0, 0, 5⟩, ⟨[104], 1, 0, 0, 6⟩, ⟨[99, 104], 2, 0, 0, 9⟩]
theorem ex_HA : HA exA := ⟨by decide, by decide⟩
theorem ex_r1 : readF exA [99, 104, 99] = ([2, 0], -1) := by decide +kernel
theorem ex_r2 : readF exA [99, 104, 45, 99] = ([2], 2) := by decide +kernel
theorem ex_w : writeF exA [0, 1] = ([99, 104], 0) := by decide +kernel
theorem ex_s1 : safeF exA [0, 1] = false := by decide +kernel
theorem ex_s2 : safeF exA [2] = true := by decide +kernel
theorem ex_p : parseF [97, 32, 97, 32, 48, 32, 48, 32, 53, 10, 65, 32, 97, 32, 48, 32, 49, 32, 54, 10] = ([⟨[97], 0, 0, 0, 5⟩, ⟨[65], 0, 0, 1, 6⟩], 0, 0) := by decide +kernel
theorem lives_c (G : Globs) : PCalls Tryd.prog G 15 [] [] (fun res H => res = pbool true ∧ H = []) := by
  have c1 := read_f G exA [99, 104, 99] ex_HA (by decide)
  have c2 := read_f G exA [99, 104, 45, 99] ex_HA (by decide)
  have c3 := write_c G exA [0, 1] ex_HA (by decide)
  have c4 := parse_f G [97, 32, 97, 32, 48, 32, 48, 32, 53, 10, 65, 32, 97, 32, 48, 32, 49, 32, 54, 10]
  have c5 := sameInts_c G [2, 0] [2, 0] (by decide)
  have c6 := sameInts_c G [2] [2] (by decide)
  have c7 := safe_c G exA [0, 1] ex_HA (by decide)
  have c8 := safe_c G exA [2] ex_HA (by decide)
  rw [ex_r1] at c1
  rw [ex_r2] at c2
  rw [ex_w] at c3
  rw [ex_p] at c4
  rw [ex_s1] at c7
  rw [ex_s2] at c8
  have c1 : PCalls Tryd.prog G 12 [.list 5 [.agg [.val (.string ⟨#[99]⟩), .val (.int .i64 0), .val (.int .i64 0), .val (.int .i64 0), .val (.int .i64 5)], .agg [.val (.string ⟨#[104]⟩), .val (.int .i64 1), .val (.int .i64 0), .val (.int .i64 0), .val (.int .i64 6)], .agg [.val (.string ⟨#[99, 104]⟩), .val (.int .i64 2), .val (.int .i64 0), .val (.int .i64 0), .val (.int .i64 9)]], .val (.string ⟨#[99, 104, 99]⟩)] [] _ := c1
  have c2 : PCalls Tryd.prog G 12 [.list 5 [.agg [.val (.string ⟨#[99]⟩), .val (.int .i64 0), .val (.int .i64 0), .val (.int .i64 0), .val (.int .i64 5)], .agg [.val (.string ⟨#[104]⟩), .val (.int .i64 1), .val (.int .i64 0), .val (.int .i64 0), .val (.int .i64 6)], .agg [.val (.string ⟨#[99, 104]⟩), .val (.int .i64 2), .val (.int .i64 0), .val (.int .i64 0), .val (.int .i64 9)]], .val (.string ⟨#[99, 104, 45, 99]⟩)] [] _ := c2
  have c3 : PCalls Tryd.prog G 22 [.list 5 [.agg [.val (.string ⟨#[99]⟩), .val (.int .i64 0), .val (.int .i64 0), .val (.int .i64 0), .val (.int .i64 5)], .agg [.val (.string ⟨#[104]⟩), .val (.int .i64 1), .val (.int .i64 0), .val (.int .i64 0), .val (.int .i64 6)], .agg [.val (.string ⟨#[99, 104]⟩), .val (.int .i64 2), .val (.int .i64 0), .val (.int .i64 0), .val (.int .i64 9)]], .list 1 [.val (.int .i64 0), .val (.int .i64 1)]] [] _ := c3
  have c4 : PCalls Tryd.prog G 19 [.val (.string ⟨#[97, 32, 97, 32, 48, 32, 48, 32, 53, 10, 65, 32, 97, 32, 48, 32, 49, 32, 54, 10]⟩)] [] _ := c4
  have c7 : PCalls Tryd.prog G 25 [.list 5 [.agg [.val (.string ⟨#[99]⟩), .val (.int .i64 0), .val (.int .i64 0), .val (.int .i64 0), .val (.int .i64 5)], .agg [.val (.string ⟨#[104]⟩), .val (.int .i64 1), .val (.int .i64 0), .val (.int .i64 0), .val (.int .i64 6)], .agg [.val (.string ⟨#[99, 104]⟩), .val (.int .i64 2), .val (.int .i64 0), .val (.int .i64 0), .val (.int .i64 9)]], .list 1 [.val (.int .i64 0), .val (.int .i64 1)]] [] _ := c7
  have c8 : PCalls Tryd.prog G 25 [.list 5 [.agg [.val (.string ⟨#[99]⟩), .val (.int .i64 0), .val (.int .i64 0), .val (.int .i64 0), .val (.int .i64 5)], .agg [.val (.string ⟨#[104]⟩), .val (.int .i64 1), .val (.int .i64 0), .val (.int .i64 0), .val (.int .i64 6)], .agg [.val (.string ⟨#[99, 104]⟩), .val (.int .i64 2), .val (.int .i64 0), .val (.int .i64 0), .val (.int .i64 9)]], .list 1 [.val (.int .i64 2)]] [] _ := c8
  have c5 : PCalls Tryd.prog G 14 [wP [2, 0], .list 1 [.val (.int .i64 2), .val (.int .i64 0)]] [] _ := c5
  have c6 : PCalls Tryd.prog G 14 [wP [2], .list 1 [.val (.int .i64 2)]] [] _ := c6
  (refine PCalls_f Tryd.func15 rfl Tryd.ntmps15 Tryd.results15 (by simp) fun fin hfin => ?_; have hnm : True := trivial; simp (maxSteps := 2000000) (disch := omega) only [evb, evd, pbuiltin, constPV, pnck, seqK, blockK, scopeK, pbin, pun, ppick, plen, piaddr, pindex, pfield, pslice, pbound, pconv, pelems, pextract, pmm, PV.mem?, PV.one, PV.cells, pageq, peqs, peq1, pmakes, pstore, pbytes, pmark, pusd, pust, psrc, pkey, pnile, pcap, pgrow, List.set, Value.cells, ↓popG_eq, ↓pop.eq_1, ↓List.getElem?_map, ↓List.getElem?_cons_zero, ↓List.getElem?_cons_succ, Value.oneCell', Nat.reduceAdd, Nat.reduceMul, Nat.reduceSub, Nat.reduceLeDiff, Nat.reduceEqDiff, ↓reduceIte, ne_eq, reduceCtorEq, forall_const, exists_and_left, exists_eq_left', eq_self, Nat.reduceLT, Int.reduceLT, Int.reduceLE, Int.reduceToNat, Int.reduceAdd, Int.reduceSub, Int.reduceNeg, hnm, Tryd.tf0, Tryd.tf1, Tryd.tf2, Tryd.tf3, Tryd.tf4, Tryd.tf9, Tryd.tf22, Tryd.tf23, Tryd.tf28, Tryd.tf36, Tryd.tf37, Tryd.tf42, Tryd.tf45, Tryd.teq45, Tryd.teq94, Tryd.teq104, Tryd.teq113, Tryd.teq114, Tryd.call12, Tryd.call14, Tryd.call19, Tryd.call22, Tryd.call25])
  repeat' (first
    | (with_reducible apply W_seq_k; intro nx hnx)
    | (with_reducible first | apply W_block | apply W_scope)
    | (with_reducible refine W_prune 2047 ?_; simp only [prb, Nat.reducePow, Nat.reduceDiv, Nat.reduceMod, Nat.reduceBEq]; with_reducible apply W_region_l)
    | (with_reducible refine WL_born (by simp) rfl (by simp) ?_; simp only [elemsOf, nl, List.map_cons, List.map_nil, Nat.reduceEqDiff, ↓reduceIte, List.take_succ_cons, List.take_zero, List.range_succ, List.range_zero, List.nil_append, List.cons_append, List.map_append, List.drop_succ_cons, List.drop_zero, Nat.reduceMul, Nat.zero_mul, Nat.one_mul, Nat.reduceAdd])
    | (with_reducible refine WL_bornH (by simp) (by simp) ?_ ?_ ?_; (· simp [frz, frz1, hnm]); (· simp [frz1, hnm, PV.one, Value.oneCell']); simp only [elemsOf, nl, List.map_cons, List.map_nil, Nat.reduceEqDiff, ↓reduceIte, List.take_succ_cons, List.take_zero, List.range_succ, List.range_zero, List.nil_append, List.cons_append, List.map_append, List.drop_succ_cons, List.drop_zero, Nat.reduceMul, Nat.zero_mul, Nat.one_mul, Nat.reduceAdd])
    | ((first | (with_reducible apply WL_op; intro nx hnx) | with_reducible refine Ev_out ?_ | (with_reducible refine pfresh_k hnm fun nm hnm => ?_; (try simp only [fmb] at hnm)) | (with_reducible refine pborn_im ?_; simp only [elemsOf, nl, List.map_cons, List.map_nil, Nat.reduceEqDiff, ↓reduceIte, List.take_succ_cons, List.take_zero, List.range_succ, List.range_zero, List.nil_append, List.cons_append, List.map_append, List.drop_succ_cons, List.drop_zero, Nat.reduceMul, Nat.zero_mul, Nat.one_mul, Nat.reduceAdd])); try (simp (maxSteps := 2000000) (disch := omega) only [evb, evd, pbuiltin, constPV, pnck, seqK, blockK, scopeK, pbin, pun, ppick, plen, piaddr, pindex, pfield, pslice, pbound, pconv, pelems, pextract, pmm, PV.mem?, PV.one, PV.cells, pageq, peqs, peq1, pmakes, pstore, pbytes, pmark, pusd, pust, psrc, pkey, pnile, pcap, pgrow, List.set, Value.cells, ↓popG_eq, ↓pop.eq_1, ↓List.getElem?_map, ↓List.getElem?_cons_zero, ↓List.getElem?_cons_succ, Value.oneCell', Nat.reduceAdd, Nat.reduceMul, Nat.reduceSub, Nat.reduceLeDiff, Nat.reduceEqDiff, ↓reduceIte, ne_eq, reduceCtorEq, forall_const, exists_and_left, exists_eq_left', eq_self, Nat.reduceLT, Int.reduceLT, Int.reduceLE, Int.reduceToNat, Int.reduceAdd, Int.reduceSub, Int.reduceNeg, hnm, Tryd.tf0, Tryd.tf1, Tryd.tf2, Tryd.tf3, Tryd.tf4, Tryd.tf9, Tryd.tf22, Tryd.tf23, Tryd.tf28, Tryd.tf36, Tryd.tf37, Tryd.tf42, Tryd.tf45, Tryd.teq45, Tryd.teq94, Tryd.teq104, Tryd.teq113, Tryd.teq114, Tryd.call12, Tryd.call14, Tryd.call19, Tryd.call22, Tryd.call25]); repeat (refine And.intro (by omega) ?_))
    | ((with_reducible first | apply WL_nil | apply W_label | apply W_skip | apply W_exit | apply W_ret); try simp only [seqK, blockK, scopeK, ↓reduceIte, Nat.reduceEqDiff])
    | (with_reducible apply pguard_intro <;> (intro hc; (try simp only [hcb, reduceCtorEq, forall_const, ne_eq] at hc); first | (exfalso; omega) | (exfalso; exact hc trivial) | refine Ev_in ?_))
    | (with_reducible apply W_cond_k; intro _ _ ea eb; (simp only [condK, cob, opnd, constPV, Nat.reduceEqDiff, Nat.reduceLT, ↓reduceIte, hcb, reduceCtorEq, forall_const, ne_eq]); subst ea eb; first | (refine ⟨fun hc => ?_, fun hc => ?_⟩ <;> first | (exfalso; omega) | (exfalso; exact hc trivial) | skip) | skip)
    | (with_reducible apply hnx; clear hnx nx)
    | (with_reducible refine And.intro (by omega) ?_)
    | (with_reducible refine And.intro ?_ ?_)
    | (with_reducible refine pcall_k (c1) ?_; rintro _ _ ⟨rfl, rfl⟩ -; refine Ev_in ?_)
    | (with_reducible refine pcall_k (c2) ?_; rintro _ _ ⟨rfl, rfl⟩ -; refine Ev_in ?_)
    | (with_reducible refine pcall_k (c3) ?_; rintro _ _ ⟨rfl, rfl⟩ -; refine Ev_in ?_)
    | (with_reducible refine pcall_k (c4) ?_; rintro _ _ ⟨rfl, rfl⟩ -; refine Ev_in ?_)
    | (with_reducible refine pcall_k (c5) ?_; rintro _ _ ⟨rfl, rfl⟩ -; refine Ev_in ?_)
    | (with_reducible refine pcall_k (c6) ?_; rintro _ _ ⟨rfl, rfl⟩ -; refine Ev_in ?_)
    | (with_reducible refine pcall_k (c7) ?_; rintro _ _ ⟨rfl, rfl⟩ -; refine Ev_in ?_)
    | (with_reducible refine pcall_k (c8) ?_; rintro _ _ ⟨rfl, rfl⟩ -; refine Ev_in ?_)
    | (clear hnx nx; with_reducible apply hnx; clear hnx nx)
    | (clear hnx nx; clear hnx nx; with_reducible apply hnx; clear hnx nx)
    | (clear hnx nx; clear hnx nx; clear hnx nx; with_reducible apply hnx; clear hnx nx))
  all_goals first | exact absurd trivial hc | contradiction | exact fun h => False.elim h | (exfalso; omega) | (exfalso; have hc := of_decide_eq_false hc; omega) | (exfalso; simp only [Bool.not_false, Bool.not_true, decide_eq_true_eq, decide_eq_false_iff_not] at *; omega) | skip
  all_goals
    refine hfin _ _ (Fin_ret1 rfl (Sub_nil _) ?_); simp only [List.getD_cons_zero, List.getD_cons_succ, fr_getD_cons, fr_getD_nil, Nat.reduceEqDiff, Nat.reduceLT, ↓reduceIte]
    exact ⟨rfl, by trivial⟩
end Go.PM

namespace Go.PM
open Go.Proofs
attribute [local irreducible] W PCalls pcall pcallI WL
set_option maxRecDepth 100000
set_option maxHeartbeats 8000000
end Go.PM

namespace Go.PM
open Go.Proofs
attribute [local irreducible] W PCalls pcall pcallI WL
set_option maxRecDepth 100000
set_option maxHeartbeats 8000000
end Go.PM

namespace Go.PM
open Go.Proofs
theorem getD_lt {a : List Ltr} {k : Nat} (h : k < a.length) : a.getD k default = a[k] := by
  rw [List.getD_eq_getElem?_getD, List.getElem?_eq_getElem h]
  rfl
end Go.PM

namespace Go.PM
open Go.Proofs
attribute [local irreducible] W PCalls pcall pcallI WL
set_option maxRecDepth 100000
set_option maxHeartbeats 8000000
theorem same_lts (G : Globs) (a b : List Ltr) (ha : (a.length : Int) ≤ 9223372036854775807) : PCalls Tryd.prog G 21 [ltsP a, ltsP b] [] (fun res H => res = pbool (decide (a = b)) ∧ H = []) := by
  (refine PCalls_f Tryd.func21 rfl Tryd.ntmps21 Tryd.results21 (by simp) fun fin hfin => ?_; have hnm : True := trivial; simp (maxSteps := 2000000) (disch := omega) only [evb, evd, pbuiltin, constPV, pnck, seqK, blockK, scopeK, pbin, pun, ppick, plen, piaddr, pindex, pfield, pslice, pbound, pconv, pelems, pextract, pmm, PV.mem?, PV.one, PV.cells, pageq, peqs, peq1, pmakes, pstore, pbytes, pmark, pusd, pust, psrc, pkey, pnile, pcap, pgrow, List.set, Value.cells, ↓popG_eq, ↓pop.eq_1, ↓List.getElem?_map, ↓List.getElem?_cons_zero, ↓List.getElem?_cons_succ, Value.oneCell', Nat.reduceAdd, Nat.reduceMul, Nat.reduceSub, Nat.reduceLeDiff, Nat.reduceEqDiff, ↓reduceIte, ne_eq, reduceCtorEq, forall_const, exists_and_left, exists_eq_left', eq_self, Nat.reduceLT, Int.reduceLT, Int.reduceLE, Int.reduceToNat, Int.reduceAdd, Int.reduceSub, Int.reduceNeg, hnm, Tryd.tf0, Tryd.tf3, Tryd.tf4, Tryd.tf23, Tryd.tf45, Tryd.teq45, Tryd.teq94, Tryd.teq104, Tryd.teq113, Tryd.teq114])
  repeat' (first
    | (with_reducible apply W_seq_k; intro nx hnx)
    | (with_reducible first | apply W_block | apply W_scope)
    | (with_reducible refine W_prune 51 ?_; simp only [prb, Nat.reducePow, Nat.reduceDiv, Nat.reduceMod, Nat.reduceBEq]; first | (with_reducible apply W_region_l) | with_reducible refine W_region_draw (id := 6) 1 (.op 0 true (.op 1 true (.op 2 true (.op 3 true (.op 4 true (.op 5 true (.op 6 true (.op 7 true (.op 8 true (.done)))))))))) (by kernel_rfl) ?_)
    | ((first | (with_reducible apply WL_op; intro nx hnx) | with_reducible refine Ev_out ?_ | (with_reducible apply popsD_op; intro nx hnx) | (with_reducible refine popsD_alt ?_ ?_; intro nx hnx)); try (simp (maxSteps := 2000000) (disch := omega) only [evb, evd, pbuiltin, constPV, pnck, seqK, blockK, scopeK, pbin, pun, ppick, plen, piaddr, pindex, pfield, pslice, pbound, pconv, pelems, pextract, pmm, PV.mem?, PV.one, PV.cells, pageq, peqs, peq1, pmakes, pstore, pbytes, pmark, pusd, pust, psrc, pkey, pnile, pcap, pgrow, List.set, Value.cells, ↓popG_eq, ↓pop.eq_1, ↓List.getElem?_map, ↓List.getElem?_cons_zero, ↓List.getElem?_cons_succ, Value.oneCell', Nat.reduceAdd, Nat.reduceMul, Nat.reduceSub, Nat.reduceLeDiff, Nat.reduceEqDiff, ↓reduceIte, ne_eq, reduceCtorEq, forall_const, exists_and_left, exists_eq_left', eq_self, Nat.reduceLT, Int.reduceLT, Int.reduceLE, Int.reduceToNat, Int.reduceAdd, Int.reduceSub, Int.reduceNeg, hnm, Tryd.tf0, Tryd.tf3, Tryd.tf4, Tryd.tf23, Tryd.tf45, Tryd.teq45, Tryd.teq94, Tryd.teq104, Tryd.teq113, Tryd.teq114]); repeat (refine And.intro (by omega) ?_))
    | ((with_reducible first | apply WL_nil | apply W_label | apply W_skip | apply W_exit | apply W_ret | apply popsD_done); try simp only [seqK, blockK, scopeK, ↓reduceIte, Nat.reduceEqDiff])
    | with_reducible exact popsD_stop
    | (with_reducible apply W_cond_k; intro _ _ ea eb; (simp only [condK, cob, opnd, constPV, Nat.reduceEqDiff, Nat.reduceLT, ↓reduceIte, hcb, reduceCtorEq, forall_const, ne_eq]); subst ea eb; first | (refine ⟨fun hc => ?_, fun hc => ?_⟩ <;> first | (exfalso; omega) | (exfalso; exact hc trivial) | skip) | skip)
    | (with_reducible apply hnx; clear hnx nx)
    | (with_reducible refine And.intro (by omega) ?_)
    | (with_reducible refine And.intro ?_ ?_)
    | (clear hnx nx; with_reducible apply hnx; clear hnx nx)
    | (clear hnx nx; clear hnx nx; with_reducible apply hnx; clear hnx nx)
    | (clear hnx nx; clear hnx nx; clear hnx nx; with_reducible apply hnx; clear hnx nx))
  all_goals first | exact absurd trivial hc | contradiction | exact fun h => False.elim h | (exfalso; omega) | (exfalso; have hc := of_decide_eq_false hc; omega) | (exfalso; simp only [Bool.not_false, Bool.not_true, decide_eq_true_eq, decide_eq_false_iff_not] at *; omega) | skip
  · refine hfin _ _ (Fin_ret1 rfl (Sub_nil _) ?_); simp only [List.getD_cons_zero, List.getD_cons_succ, fr_getD_cons, fr_getD_nil, Nat.reduceEqDiff, Nat.reduceLT, ↓reduceIte]
    refine ⟨?_, by trivial⟩
    have : ¬ a = b := fun h => hc (by rw [h])
    simp [this]
  · refine W_loop_k (fun n τ => ∃ i : Nat, i ≤ a.length ∧ n = a.length - i ∧ a.take i = b.take i ∧ τ = ⟨fr 26 [(0, ltsP a), (1, ltsP b), (5, pn i)], []⟩) a.length ⟨fr 26 [(0, ltsP a), (1, ltsP b), (5, pn 0)], []⟩ (by exact Wk_fr (by simp only [wkb, Nat.reduceEqDiff, Nat.reduceLT, ↓reduceIte, pn]) (Sub_nil _)) ⟨0, by omega, by omega, by simp, rfl⟩ ?_
    rintro n τ ⟨i, hi, rfl, he, rfl⟩ lp hlp
    by_cases hil : i < a.length
    · have h2 : i < b.length := by omega
      have hga : a[i]? = some a[i] := List.getElem?_eq_getElem hil
      have hgb : b[i]? = some b[i] := List.getElem?_eq_getElem h2
      have hext : a[i] = b[i] ↔ a[i].text = b[i].text ∧ a[i].base = b[i].base ∧ a[i].mark = b[i].mark ∧ a[i].case_ = b[i].case_ ∧ a[i].width = b[i].width := by
        constructor
        · intro h
          rw [h]
          simp
        · rintro ⟨q1, q2, q3, q4, q5⟩
          cases ha : a[i]
          cases hb : b[i]
          rw [ha, hb] at q1 q2 q3 q4 q5
          simp only at q1 q2 q3 q4 q5
          subst q1 q2 q3 q4 q5
          rfl
      repeat' (first
    | (with_reducible apply W_seq_k; intro nx hnx)
    | (with_reducible first | apply W_block | apply W_scope)
    | (with_reducible refine W_prune 51 ?_; simp only [prb, Nat.reducePow, Nat.reduceDiv, Nat.reduceMod, Nat.reduceBEq]; first | (with_reducible apply W_region_l) | with_reducible refine W_region_draw (id := 6) 1 (.op 0 true (.op 1 true (.op 2 true (.op 3 true (.op 4 true (.op 5 true (.op 6 true (.op 7 true (.op 8 true (.done)))))))))) (by kernel_rfl) ?_)
    | ((first | (with_reducible apply WL_op; intro nx hnx) | with_reducible refine Ev_out ?_ | (with_reducible apply popsD_op; intro nx hnx) | (with_reducible refine popsD_alt ?_ ?_; intro nx hnx)); try (simp (maxSteps := 2000000) (disch := omega) only [evb, evd, pbuiltin, constPV, pnck, seqK, blockK, scopeK, pbin, pun, ppick, plen, piaddr, pindex, pfield, pslice, pbound, pconv, pelems, pextract, pmm, PV.mem?, PV.one, PV.cells, pageq, peqs, peq1, pmakes, pstore, pbytes, pmark, pusd, pust, psrc, pkey, pnile, pcap, pgrow, List.set, Value.cells, ↓popG_eq, ↓pop.eq_1, ↓List.getElem?_map, ↓List.getElem?_cons_zero, ↓List.getElem?_cons_succ, Value.oneCell', Nat.reduceAdd, Nat.reduceMul, Nat.reduceSub, Nat.reduceLeDiff, Nat.reduceEqDiff, ↓reduceIte, ne_eq, reduceCtorEq, forall_const, exists_and_left, exists_eq_left', eq_self, Nat.reduceLT, Int.reduceLT, Int.reduceLE, Int.reduceToNat, Int.reduceAdd, Int.reduceSub, Int.reduceNeg, hnm, Tryd.tf0, Tryd.tf3, Tryd.tf4, Tryd.tf23, Tryd.tf45, Tryd.teq45, Tryd.teq94, Tryd.teq104, Tryd.teq113, Tryd.teq114, hga, hgb]); repeat (refine And.intro (by omega) ?_))
    | ((with_reducible first | apply WL_nil | apply W_label | apply W_skip | apply W_exit | apply W_ret | apply popsD_done); try simp only [seqK, blockK, scopeK, ↓reduceIte, Nat.reduceEqDiff])
    | with_reducible exact popsD_stop
    | (with_reducible apply W_cond_k; intro _ _ ea eb; (simp only [condK, cob, opnd, constPV, Nat.reduceEqDiff, Nat.reduceLT, ↓reduceIte, hcb, reduceCtorEq, forall_const, ne_eq]); subst ea eb; first | (refine ⟨fun hc => ?_, fun hc => ?_⟩ <;> first | (exfalso; omega) | (exfalso; exact hc trivial) | skip) | skip)
    | (with_reducible apply hnx; clear hnx nx)
    | (with_reducible refine And.intro (by omega) ?_)
    | (with_reducible refine And.intro ?_ ?_)
    | (clear hnx nx; with_reducible apply hnx; clear hnx nx)
    | (clear hnx nx; clear hnx nx; with_reducible apply hnx; clear hnx nx)
    | (clear hnx nx; clear hnx nx; clear hnx nx; with_reducible apply hnx; clear hnx nx))
      all_goals first | exact absurd trivial hc | contradiction | exact fun h => False.elim h | (exfalso; omega) | (exfalso; have hc := of_decide_eq_false hc; omega) | (exfalso; simp only [Bool.not_false, Bool.not_true, decide_eq_true_eq, decide_eq_false_iff_not] at *; omega) | skip
      · have hne : ¬ a[i] = b[i] := by
          intro h
          simp [h] at hc
        refine hfin _ _ (Fin_ret1 rfl (Sub_nil _) ?_); simp only [List.getD_cons_zero, List.getD_cons_succ, fr_getD_cons, fr_getD_nil, Nat.reduceEqDiff, Nat.reduceLT, ↓reduceIte]
        refine ⟨?_, by trivial⟩
        have : ¬ a = b := fun h => hne (by simp [h])
        simp [this]
      · have hee : a[i] = b[i] := by
          rw [hext]
          simpa using hc
        refine hlp _ (a.length - (i + 1)) _ (by omega) ?_ ⟨i + 1, by omega, rfl, ?_, rfl⟩
        · exact Wk_fr (by simp only [wkb, Nat.reduceEqDiff, Nat.reduceLT, ↓reduceIte, pn]) (Sub_nil _)
        · rw [List.take_add_one, List.take_add_one, he, List.getElem?_eq_getElem hil, List.getElem?_eq_getElem h2, hee]
    · have hi2 : i = a.length := by omega
      subst hi2
      repeat' (first
    | (with_reducible apply W_seq_k; intro nx hnx)
    | (with_reducible first | apply W_block | apply W_scope)
    | (with_reducible refine W_prune 51 ?_; simp only [prb, Nat.reducePow, Nat.reduceDiv, Nat.reduceMod, Nat.reduceBEq]; first | (with_reducible apply W_region_l) | with_reducible refine W_region_draw (id := 6) 1 (.op 0 true (.op 1 true (.op 2 true (.op 3 true (.op 4 true (.op 5 true (.op 6 true (.op 7 true (.op 8 true (.done)))))))))) (by kernel_rfl) ?_)
    | ((first | (with_reducible apply WL_op; intro nx hnx) | with_reducible refine Ev_out ?_ | (with_reducible apply popsD_op; intro nx hnx) | (with_reducible refine popsD_alt ?_ ?_; intro nx hnx)); try (simp (maxSteps := 2000000) (disch := omega) only [evb, evd, pbuiltin, constPV, pnck, seqK, blockK, scopeK, pbin, pun, ppick, plen, piaddr, pindex, pfield, pslice, pbound, pconv, pelems, pextract, pmm, PV.mem?, PV.one, PV.cells, pageq, peqs, peq1, pmakes, pstore, pbytes, pmark, pusd, pust, psrc, pkey, pnile, pcap, pgrow, List.set, Value.cells, ↓popG_eq, ↓pop.eq_1, ↓List.getElem?_map, ↓List.getElem?_cons_zero, ↓List.getElem?_cons_succ, Value.oneCell', Nat.reduceAdd, Nat.reduceMul, Nat.reduceSub, Nat.reduceLeDiff, Nat.reduceEqDiff, ↓reduceIte, ne_eq, reduceCtorEq, forall_const, exists_and_left, exists_eq_left', eq_self, Nat.reduceLT, Int.reduceLT, Int.reduceLE, Int.reduceToNat, Int.reduceAdd, Int.reduceSub, Int.reduceNeg, hnm, Tryd.tf0, Tryd.tf3, Tryd.tf4, Tryd.tf23, Tryd.tf45, Tryd.teq45, Tryd.teq94, Tryd.teq104, Tryd.teq113, Tryd.teq114]); repeat (refine And.intro (by omega) ?_))
    | ((with_reducible first | apply WL_nil | apply W_label | apply W_skip | apply W_exit | apply W_ret | apply popsD_done); try simp only [seqK, blockK, scopeK, ↓reduceIte, Nat.reduceEqDiff])
    | with_reducible exact popsD_stop
    | (with_reducible apply W_cond_k; intro _ _ ea eb; (simp only [condK, cob, opnd, constPV, Nat.reduceEqDiff, Nat.reduceLT, ↓reduceIte, hcb, reduceCtorEq, forall_const, ne_eq]); subst ea eb; first | (refine ⟨fun hc => ?_, fun hc => ?_⟩ <;> first | (exfalso; omega) | (exfalso; exact hc trivial) | skip) | skip)
    | (with_reducible apply hnx; clear hnx nx)
    | (with_reducible refine And.intro (by omega) ?_)
    | (with_reducible refine And.intro ?_ ?_)
    | (clear hnx nx; with_reducible apply hnx; clear hnx nx)
    | (clear hnx nx; clear hnx nx; with_reducible apply hnx; clear hnx nx)
    | (clear hnx nx; clear hnx nx; clear hnx nx; with_reducible apply hnx; clear hnx nx))
      all_goals first | exact absurd trivial hc | contradiction | exact fun h => False.elim h | (exfalso; omega) | (exfalso; have hc := of_decide_eq_false hc; omega) | (exfalso; simp only [Bool.not_false, Bool.not_true, decide_eq_true_eq, decide_eq_false_iff_not] at *; omega) | skip
      all_goals
        refine hfin _ _ (Fin_ret1 rfl (Sub_nil _) ?_); simp only [List.getD_cons_zero, List.getD_cons_succ, fr_getD_cons, fr_getD_nil, Nat.reduceEqDiff, Nat.reduceLT, ↓reduceIte]
        refine ⟨?_, by trivial⟩
        rw [List.take_of_length_le (by omega), List.take_of_length_le (by omega)] at he
        simp [he]
end Go.PM

namespace Go.PM
open Go.Proofs
attribute [local irreducible] W PCalls pcall pcallI WL
set_option maxRecDepth 100000
set_option maxHeartbeats 8000000
end Go.PM

namespace Go.PM
open Go.Proofs
attribute [local irreducible] W PCalls pcall pcallI WL
set_option maxRecDepth 100000
set_option maxHeartbeats 8000000
/-- What spelt hands back, as far as it matters: a text that is not long. -/
theorem spelt_c (G : Globs) (s : List UInt8) (at_ how by_ : Int) (hs : s.length ≤ 100000000) (h1 : i64 at_) (h2 : i64 how) (h3 : i64 by_) : ∃ t : List UInt8, t.length ≤ s.length + 1 ∧ PCalls Tryd.prog G 17 [pstr s, pint .i64 at_, pint .i64 how, pint .i64 by_] [] (fun res H => res = pstr t ∧ H = []) := by
  have c1 := around_c G by_ 256 (by omega) h3 (by omega)
  have c2 := around_c G how 4 (by omega) h2 (by omega)
  have c3 := around_c G by_ 8 (by omega) h3 (by omega)
  have b1 := arF_bound by_ (most := 256) (by omega)
  have b2 := arF_bound how (most := 4) (by omega)
  have b3 := arF_bound by_ (most := 8) (by omega)
  generalize arF by_ 256 = x1 at *
  generalize arF how 4 = x2 at *
  generalize arF by_ 8 = x3 at *
  obtain ⟨d, hd⟩ : ∃ d : UInt8, d = UInt8.ofNat x1.toNat := ⟨_, rfl⟩
  have hw1 : IntKind.u8.wrap x1 = d.toNat := by
    rw [wr8 _ (by omega) (by omega), hd, UInt8.toNat_ofNat']
    omega
  have hu1 : unb (pint .u8 d.toNat) = d := List.singleton_inj.1 (unb_pb [d])
  have hu2 : isByte (pint .u8 d.toNat) = true := isByte_pbyte d
  by_cases hs0 : s = []
  · refine ⟨[d], by simp, ?_⟩
    subst hs0
    (refine PCalls_f Tryd.func17 rfl Tryd.ntmps17 Tryd.results17 (by simp) fun fin hfin => ?_; have hnm : True := trivial; simp (maxSteps := 2000000) (disch := omega) only [evb, evd, pbuiltin, constPV, pnck, seqK, blockK, scopeK, pbin, pun, ppick, plen, piaddr, pindex, pfield, pslice, pbound, pconv, pelems, pextract, pmm, PV.mem?, PV.one, PV.cells, pageq, peqs, peq1, pmakes, pstore, pbytes, pmark, pusd, pust, psrc, pkey, pnile, pcap, pgrow, List.set, Value.cells, ↓popG_eq, ↓pop.eq_1, ↓List.getElem?_map, ↓List.getElem?_cons_zero, ↓List.getElem?_cons_succ, Value.oneCell', Nat.reduceAdd, Nat.reduceMul, Nat.reduceSub, Nat.reduceLeDiff, Nat.reduceEqDiff, ↓reduceIte, ne_eq, reduceCtorEq, forall_const, exists_and_left, exists_eq_left', eq_self, Nat.reduceLT, Int.reduceLT, Int.reduceLE, Int.reduceToNat, Int.reduceAdd, Int.reduceSub, Int.reduceNeg, hnm, Tryd.tf0, Tryd.tf1, Tryd.tf3, Tryd.tf4, Tryd.tf5, Tryd.tf8, Tryd.tf9, Tryd.tf26, Tryd.tf40, Tryd.teq45, Tryd.teq94, Tryd.teq104, Tryd.teq113, Tryd.teq114, Tryd.call32])
    repeat' (first
    | (with_reducible apply W_seq_k; intro nx hnx)
    | (with_reducible first | apply W_block | apply W_scope)
    | (with_reducible refine W_prune 8589936399 ?_; simp only [prb, Nat.reducePow, Nat.reduceDiv, Nat.reduceMod, Nat.reduceBEq]; first | (with_reducible apply W_region_l) | with_reducible refine W_region_draw (id := 4) 3 (.op 0 true (.op 6 true (.op 1 false (.op 2 true (.alt 3 false (.op 4 true (.alt 5 false (.op 7 true (.op 8 true (.op 9 true (.op 10 true (.done))))) (.alt 7 true (.op 5 false (.op 8 true (.op 9 true (.op 10 true (.done))))) .stop))) (.alt 7 true (.op 3 false (.op 4 true (.op 5 false (.op 8 true (.op 9 true (.op 10 true (.done))))))) .stop)))))) (by kernel_rfl) ?_ | with_reducible refine W_region_draw (id := 7) 1 (.op 0 true (.op 1 true (.op 2 true (.op 3 true (.op 4 true (.op 5 true (.op 6 true (.op 7 true (.op 8 true (.done)))))))))) (by kernel_rfl) ?_ | with_reducible refine W_region_draw (id := 9) 1 (.op 0 true (.op 1 true (.op 2 true (.op 3 true (.op 4 true (.op 5 true (.op 6 true (.op 7 true (.op 8 true (.op 9 true (.done))))))))))) (by kernel_rfl) ?_ | with_reducible refine W_region_draw (id := 11) 1 (.op 0 true (.op 1 true (.op 2 true (.op 3 true (.op 4 true (.op 5 true (.op 6 true (.op 7 true (.op 8 true (.op 9 true (.op 10 true (.done)))))))))))) (by kernel_rfl) ?_)
    | (with_reducible refine WL_born (by simp) rfl (by simp) ?_; simp only [elemsOf, nl, List.map_cons, List.map_nil, Nat.reduceEqDiff, ↓reduceIte, List.take_succ_cons, List.take_zero, List.range_succ, List.range_zero, List.nil_append, List.cons_append, List.map_append, List.drop_succ_cons, List.drop_zero, Nat.reduceMul, Nat.zero_mul, Nat.one_mul, Nat.reduceAdd])
    | ((first | (with_reducible apply WL_op; intro nx hnx) | with_reducible refine Ev_out ?_ | (with_reducible apply popsD_op; intro nx hnx) | (with_reducible refine popsD_alt ?_ ?_; intro nx hnx) | (with_reducible refine pfresh_k hnm fun nm hnm => ?_; (try simp only [fmb] at hnm)) | (with_reducible refine pborn_im ?_; simp only [elemsOf, nl, List.map_cons, List.map_nil, Nat.reduceEqDiff, ↓reduceIte, List.take_succ_cons, List.take_zero, List.range_succ, List.range_zero, List.nil_append, List.cons_append, List.map_append, List.drop_succ_cons, List.drop_zero, Nat.reduceMul, Nat.zero_mul, Nat.one_mul, Nat.reduceAdd])); try (simp (maxSteps := 2000000) (disch := omega) only [evb, evd, pbuiltin, constPV, pnck, seqK, blockK, scopeK, pbin, pun, ppick, plen, piaddr, pindex, pfield, pslice, pbound, pconv, pelems, pextract, pmm, PV.mem?, PV.one, PV.cells, pageq, peqs, peq1, pmakes, pstore, pbytes, pmark, pusd, pust, psrc, pkey, pnile, pcap, pgrow, List.set, Value.cells, ↓popG_eq, ↓pop.eq_1, ↓List.getElem?_map, ↓List.getElem?_cons_zero, ↓List.getElem?_cons_succ, Value.oneCell', Nat.reduceAdd, Nat.reduceMul, Nat.reduceSub, Nat.reduceLeDiff, Nat.reduceEqDiff, ↓reduceIte, ne_eq, reduceCtorEq, forall_const, exists_and_left, exists_eq_left', eq_self, Nat.reduceLT, Int.reduceLT, Int.reduceLE, Int.reduceToNat, Int.reduceAdd, Int.reduceSub, Int.reduceNeg, hnm, Tryd.tf0, Tryd.tf1, Tryd.tf3, Tryd.tf4, Tryd.tf5, Tryd.tf8, Tryd.tf9, Tryd.tf26, Tryd.tf40, Tryd.teq45, Tryd.teq94, Tryd.teq104, Tryd.teq113, Tryd.teq114, Tryd.call32, hw1, hu1, hu2]); repeat (refine And.intro (by omega) ?_))
    | ((with_reducible first | apply WL_nil | apply W_label | apply W_skip | apply W_exit | apply W_ret | apply popsD_done); try simp only [seqK, blockK, scopeK, ↓reduceIte, Nat.reduceEqDiff])
    | with_reducible exact popsD_stop
    | (with_reducible apply W_cond_k; intro _ _ ea eb; (simp only [condK, cob, opnd, constPV, Nat.reduceEqDiff, Nat.reduceLT, ↓reduceIte, hcb, reduceCtorEq, forall_const, ne_eq]); subst ea eb; first | (refine ⟨fun hc => ?_, fun hc => ?_⟩ <;> first | (exfalso; omega) | (exfalso; exact hc trivial) | skip) | skip)
    | (with_reducible apply hnx; clear hnx nx)
    | (with_reducible refine And.intro (by omega) ?_)
    | (with_reducible refine And.intro ?_ ?_)
    | (with_reducible refine pcall_k (c1) ?_; rintro _ _ ⟨rfl, rfl⟩ -; refine Ev_in ?_)
    | (clear hnx nx; with_reducible apply hnx; clear hnx nx)
    | (clear hnx nx; clear hnx nx; with_reducible apply hnx; clear hnx nx)
    | (clear hnx nx; clear hnx nx; clear hnx nx; with_reducible apply hnx; clear hnx nx))
    all_goals first | exact absurd trivial hc | contradiction | exact fun h => False.elim h | (exfalso; omega) | (exfalso; have hc := of_decide_eq_false hc; omega) | (exfalso; simp only [Bool.not_false, Bool.not_true, decide_eq_true_eq, decide_eq_false_iff_not] at *; omega) | skip
    · exact (by kernel_rfl : Tryd.prog.underlying 5 = some (.int .u8))
    · (refine hfin _ _ (Fin_ret1 rfl (Sub_nil _) ?_); simp only [List.getD_cons_zero, List.getD_cons_succ, fr_getD_cons, fr_getD_nil, Nat.reduceEqDiff, Nat.reduceLT, ↓reduceIte]; first | trivial | exact ⟨rfl, by trivial⟩ | (simp; done) | (simp; omega))
  · have c4 := around_c G at_ s.length (by have := List.length_pos_iff.2 hs0; omega) h1 (by omega)
    have b4 := arF_bound at_ (most := s.length) (by have := List.length_pos_iff.2 hs0; omega)
    generalize arF at_ s.length = p at *
    obtain ⟨c, hc⟩ : ∃ c, c = ([[32], [10], [48], [49], [57], [97], [45], [d]] : List (List UInt8)).getD x3.toNat [] := ⟨_, rfl⟩
    have hget : ([PV.val (.string ⟨#[32]⟩), PV.val (.string ⟨#[10]⟩), PV.val (.string ⟨#[48]⟩), PV.val (.string ⟨#[49]⟩), PV.val (.string ⟨#[57]⟩), PV.val (.string ⟨#[97]⟩), PV.val (.string ⟨#[45]⟩), pstr [d]] : List PV).getD x3.toNat PV.junk = pstr c := by
      rw [hc]
      show (([[32], [10], [48], [49], [57], [97], [45], [d]] : List (List UInt8)).map pstr).getD x3.toNat PV.junk = _
      have hl : x3.toNat < ([[32], [10], [48], [49], [57], [97], [45], [d]] : List (List UInt8)).length := by show x3.toNat < 8; omega
      rw [List.getD_eq_getElem?_getD, List.getD_eq_getElem?_getD, List.getElem?_map, List.getElem?_eq_getElem hl]
      rfl
    have hcl : c.length ≤ 1 := by
      rw [hc]
      have h : ∀ x ∈ ([[32], [10], [48], [49], [57], [97], [45], [d]] : List (List UInt8)), x.length ≤ 1 := by simp
      have hl : x3.toNat < ([[32], [10], [48], [49], [57], [97], [45], [d]] : List (List UInt8)).length := by show x3.toNat < 8; omega
      rw [List.getD_eq_getElem?_getD, List.getElem?_eq_getElem hl]
      exact h _ (List.getElem_mem hl)
    obtain ⟨q, hq⟩ : ∃ q : Nat, p = q := ⟨p.toNat, by omega⟩
    subst hq
    have e1 : ((q : Int) + 1).toNat = q + 1 := by omega
    have hx : x2 = 0 ∨ x2 = 1 ∨ x2 = 2 ∨ x2 = 3 := by omega
    have key : ∃ t : List UInt8, t.length ≤ s.length + 1 ∧ ((x2 = 0 ∧ t = s.take q ++ s.drop (q + 1)) ∨ (x2 = 1 ∧ t = s.take q ++ c ++ s.drop q) ∨ (x2 = 2 ∧ t = s.take q ++ c ++ s.drop (q + 1)) ∨ (x2 = 3 ∧ t = s.take q)) := by
      rcases hx with h | h | h | h
      · exact ⟨_, by simp; omega, .inl ⟨h, rfl⟩⟩
      · exact ⟨_, by simp; omega, .inr (.inl ⟨h, rfl⟩)⟩
      · exact ⟨_, by simp; omega, .inr (.inr (.inl ⟨h, rfl⟩))⟩
      · exact ⟨_, by simp; omega, .inr (.inr (.inr ⟨h, rfl⟩))⟩
    obtain ⟨t, htl, ht⟩ := key
    refine ⟨t, htl, ?_⟩
    rcases ht with ⟨q0, ht⟩ | ⟨q0, ht⟩ | ⟨q0, ht⟩ | ⟨q0, ht⟩
    all_goals
      subst q0
      (refine PCalls_f Tryd.func17 rfl Tryd.ntmps17 Tryd.results17 (by simp) fun fin hfin => ?_; have hnm : True := trivial; simp (maxSteps := 2000000) (disch := omega) only [evb, evd, pbuiltin, constPV, pnck, seqK, blockK, scopeK, pbin, pun, ppick, plen, piaddr, pindex, pfield, pslice, pbound, pconv, pelems, pextract, pmm, PV.mem?, PV.one, PV.cells, pageq, peqs, peq1, pmakes, pstore, pbytes, pmark, pusd, pust, psrc, pkey, pnile, pcap, pgrow, List.set, Value.cells, ↓popG_eq, ↓pop.eq_1, ↓List.getElem?_map, ↓List.getElem?_cons_zero, ↓List.getElem?_cons_succ, Value.oneCell', Nat.reduceAdd, Nat.reduceMul, Nat.reduceSub, Nat.reduceLeDiff, Nat.reduceEqDiff, ↓reduceIte, ne_eq, reduceCtorEq, forall_const, exists_and_left, exists_eq_left', eq_self, Nat.reduceLT, Int.reduceLT, Int.reduceLE, Int.reduceToNat, Int.reduceAdd, Int.reduceSub, Int.reduceNeg, hnm, Tryd.tf0, Tryd.tf1, Tryd.tf3, Tryd.tf4, Tryd.tf5, Tryd.tf8, Tryd.tf9, Tryd.tf26, Tryd.tf40, Tryd.teq45, Tryd.teq94, Tryd.teq104, Tryd.teq113, Tryd.teq114, Tryd.call32])
      repeat' (first
    | (with_reducible apply W_seq_k; intro nx hnx)
    | (with_reducible first | apply W_block | apply W_scope)
    | (with_reducible refine W_prune 8589936399 ?_; simp only [prb, Nat.reducePow, Nat.reduceDiv, Nat.reduceMod, Nat.reduceBEq]; first | (with_reducible apply W_region_l) | with_reducible refine W_region_draw (id := 4) 3 (.op 0 true (.op 6 true (.op 1 false (.op 2 true (.alt 3 false (.op 4 true (.alt 5 false (.op 7 true (.op 8 true (.op 9 true (.op 10 true (.done))))) (.alt 7 true (.op 5 false (.op 8 true (.op 9 true (.op 10 true (.done))))) .stop))) (.alt 7 true (.op 3 false (.op 4 true (.op 5 false (.op 8 true (.op 9 true (.op 10 true (.done))))))) .stop)))))) (by kernel_rfl) ?_ | with_reducible refine W_region_draw (id := 7) 1 (.op 0 true (.op 1 true (.op 2 true (.op 3 true (.op 4 true (.op 5 true (.op 6 true (.op 7 true (.op 8 true (.done)))))))))) (by kernel_rfl) ?_ | with_reducible refine W_region_draw (id := 9) 1 (.op 0 true (.op 1 true (.op 2 true (.op 3 true (.op 4 true (.op 5 true (.op 6 true (.op 7 true (.op 8 true (.op 9 true (.done))))))))))) (by kernel_rfl) ?_ | with_reducible refine W_region_draw (id := 11) 1 (.op 0 true (.op 1 true (.op 2 true (.op 3 true (.op 4 true (.op 5 true (.op 6 true (.op 7 true (.op 8 true (.op 9 true (.op 10 true (.done)))))))))))) (by kernel_rfl) ?_)
    | (with_reducible refine WL_born (by simp) rfl (by simp) ?_; simp only [elemsOf, nl, List.map_cons, List.map_nil, Nat.reduceEqDiff, ↓reduceIte, List.take_succ_cons, List.take_zero, List.range_succ, List.range_zero, List.nil_append, List.cons_append, List.map_append, List.drop_succ_cons, List.drop_zero, Nat.reduceMul, Nat.zero_mul, Nat.one_mul, Nat.reduceAdd])
    | ((first | (with_reducible apply WL_op; intro nx hnx) | with_reducible refine Ev_out ?_ | (with_reducible apply popsD_op; intro nx hnx) | (with_reducible refine popsD_alt ?_ ?_; intro nx hnx) | (with_reducible refine pfresh_k hnm fun nm hnm => ?_; (try simp only [fmb] at hnm)) | (with_reducible refine pborn_im ?_; simp only [elemsOf, nl, List.map_cons, List.map_nil, Nat.reduceEqDiff, ↓reduceIte, List.take_succ_cons, List.take_zero, List.range_succ, List.range_zero, List.nil_append, List.cons_append, List.map_append, List.drop_succ_cons, List.drop_zero, Nat.reduceMul, Nat.zero_mul, Nat.one_mul, Nat.reduceAdd])); try (simp (maxSteps := 2000000) (disch := omega) only [evb, evd, pbuiltin, constPV, pnck, seqK, blockK, scopeK, pbin, pun, ppick, plen, piaddr, pindex, pfield, pslice, pbound, pconv, pelems, pextract, pmm, PV.mem?, PV.one, PV.cells, pageq, peqs, peq1, pmakes, pstore, pbytes, pmark, pusd, pust, psrc, pkey, pnile, pcap, pgrow, List.set, Value.cells, ↓popG_eq, ↓pop.eq_1, ↓List.getElem?_map, ↓List.getElem?_cons_zero, ↓List.getElem?_cons_succ, Value.oneCell', Nat.reduceAdd, Nat.reduceMul, Nat.reduceSub, Nat.reduceLeDiff, Nat.reduceEqDiff, ↓reduceIte, ne_eq, reduceCtorEq, forall_const, exists_and_left, exists_eq_left', eq_self, Nat.reduceLT, Int.reduceLT, Int.reduceLE, Int.reduceToNat, Int.reduceAdd, Int.reduceSub, Int.reduceNeg, hnm, Tryd.tf0, Tryd.tf1, Tryd.tf3, Tryd.tf4, Tryd.tf5, Tryd.tf8, Tryd.tf9, Tryd.tf26, Tryd.tf40, Tryd.teq45, Tryd.teq94, Tryd.teq104, Tryd.teq113, Tryd.teq114, Tryd.call32, hs0, hw1, hu1, hu2, hget, e1, List.take_length]); repeat (refine And.intro (by omega) ?_))
    | ((with_reducible first | apply WL_nil | apply W_label | apply W_skip | apply W_exit | apply W_ret | apply popsD_done); try simp only [seqK, blockK, scopeK, ↓reduceIte, Nat.reduceEqDiff])
    | with_reducible exact popsD_stop
    | (with_reducible apply W_cond_k; intro _ _ ea eb; (simp only [condK, cob, opnd, constPV, Nat.reduceEqDiff, Nat.reduceLT, ↓reduceIte, hcb, reduceCtorEq, forall_const, ne_eq]); subst ea eb; first | (refine ⟨fun hc => ?_, fun hc => ?_⟩ <;> first | (exfalso; omega) | (exfalso; exact hc trivial) | skip) | skip)
    | (with_reducible apply hnx; clear hnx nx)
    | (with_reducible refine And.intro (by omega) ?_)
    | (with_reducible refine And.intro ?_ ?_)
    | (with_reducible refine pcall_k (c1) ?_; rintro _ _ ⟨rfl, rfl⟩ -; refine Ev_in ?_)
    | (with_reducible refine pcall_k (c2) ?_; rintro _ _ ⟨rfl, rfl⟩ -; refine Ev_in ?_)
    | (with_reducible refine pcall_k (c3) ?_; rintro _ _ ⟨rfl, rfl⟩ -; refine Ev_in ?_)
    | (with_reducible refine pcall_k (c4) ?_; rintro _ _ ⟨rfl, rfl⟩ -; refine Ev_in ?_)
    | (clear hnx nx; with_reducible apply hnx; clear hnx nx)
    | (clear hnx nx; clear hnx nx; with_reducible apply hnx; clear hnx nx)
    | (clear hnx nx; clear hnx nx; clear hnx nx; with_reducible apply hnx; clear hnx nx))
      all_goals first | exact absurd trivial hc | contradiction | exact fun h => False.elim h | (exfalso; omega) | (exfalso; have hc := of_decide_eq_false hc; omega) | (exfalso; simp only [Bool.not_false, Bool.not_true, decide_eq_true_eq, decide_eq_false_iff_not] at *; omega) | skip
      all_goals first
        | exact (by kernel_rfl : Tryd.prog.underlying 5 = some (.int .u8))
        | (refine hfin _ _ (Fin_ret1 rfl (Sub_nil _) ?_); simp only [List.getD_cons_zero, List.getD_cons_succ, fr_getD_cons, fr_getD_nil, Nat.reduceEqDiff, Nat.reduceLT, ↓reduceIte]
           exact ⟨by rw [ht], by trivial⟩)
end Go.PM

namespace Go.PM
open Go.Proofs
attribute [local irreducible] W PCalls pcall pcallI WL
set_option maxRecDepth 100000
set_option maxHeartbeats 8000000
theorem decF_lt {n : Nat} (h : n < 10) : decF n = [UInt8.ofNat (48 + n)] := by
  rw [decF, if_pos h]
theorem decF_ge {n : Nat} (h : ¬ n < 10) : decF n = decF (n / 10) ++ [UInt8.ofNat (48 + n % 10)] := by
  rw [decF, if_neg h]
theorem rnumber_c (G : Globs) (n : Nat) (hn : n ≤ 1000000) : PCalls Tryd.prog G 36 [pn n] [] (fun res H => res = pstr (decF n) ∧ H = []) := by
  (refine PCalls_f Tryd.func36 rfl Tryd.ntmps36 Tryd.results36 (by simp) fun fin hfin => ?_; have hnm : True := trivial; simp (maxSteps := 2000000) (disch := omega) only [evb, evd, pbuiltin, constPV, pnck, seqK, blockK, scopeK, pbin, pun, ppick, plen, piaddr, pindex, pfield, pslice, pbound, pconv, pelems, pextract, pmm, PV.mem?, PV.one, PV.cells, pageq, peqs, peq1, pmakes, pstore, pbytes, pmark, pusd, pust, psrc, pkey, pnile, pcap, pgrow, List.set, Value.cells, ↓popG_eq, ↓pop.eq_1, ↓List.getElem?_map, ↓List.getElem?_cons_zero, ↓List.getElem?_cons_succ, Value.oneCell', Nat.reduceAdd, Nat.reduceMul, Nat.reduceSub, Nat.reduceLeDiff, Nat.reduceEqDiff, ↓reduceIte, ne_eq, reduceCtorEq, forall_const, exists_and_left, exists_eq_left', eq_self, Nat.reduceLT, Int.reduceLT, Int.reduceLE, Int.reduceToNat, Int.reduceAdd, Int.reduceSub, Int.reduceNeg, hnm, Tryd.tf1, Tryd.tf3, Tryd.tf4, Tryd.tf5, Tryd.tf9, Tryd.tf40, Tryd.teq45, Tryd.teq94, Tryd.teq104, Tryd.teq113, Tryd.teq114])
  repeat' (first
    | (with_reducible apply W_seq_k; intro nx hnx)
    | (with_reducible first | apply W_block | apply W_scope)
    | (with_reducible refine W_prune 13 ?_; simp only [prb, Nat.reducePow, Nat.reduceDiv, Nat.reduceMod, Nat.reduceBEq]; with_reducible apply W_region_l)
    | ((first | (with_reducible apply WL_op; intro nx hnx) | with_reducible refine Ev_out ?_ | (with_reducible refine pfresh_k hnm fun nm hnm => ?_; (try simp only [fmb] at hnm)) | (with_reducible refine pborn_mu hnm fun nm hnm => ?_; (try simp only [fmb] at hnm))); try (simp (maxSteps := 2000000) (disch := omega) only [evb, evd, pbuiltin, constPV, pnck, seqK, blockK, scopeK, pbin, pun, ppick, plen, piaddr, pindex, pfield, pslice, pbound, pconv, pelems, pextract, pmm, PV.mem?, PV.one, PV.cells, pageq, peqs, peq1, pmakes, pstore, pbytes, pmark, pusd, pust, psrc, pkey, pnile, pcap, pgrow, List.set, Value.cells, ↓popG_eq, ↓pop.eq_1, ↓List.getElem?_map, ↓List.getElem?_cons_zero, ↓List.getElem?_cons_succ, Value.oneCell', Nat.reduceAdd, Nat.reduceMul, Nat.reduceSub, Nat.reduceLeDiff, Nat.reduceEqDiff, ↓reduceIte, ne_eq, reduceCtorEq, forall_const, exists_and_left, exists_eq_left', eq_self, Nat.reduceLT, Int.reduceLT, Int.reduceLE, Int.reduceToNat, Int.reduceAdd, Int.reduceSub, Int.reduceNeg, hnm, Tryd.tf1, Tryd.tf3, Tryd.tf4, Tryd.tf5, Tryd.tf9, Tryd.tf40, Tryd.teq45, Tryd.teq94, Tryd.teq104, Tryd.teq113, Tryd.teq114]); repeat (refine And.intro (by omega) ?_))
    | ((with_reducible first | apply WL_nil | apply W_label | apply W_skip | apply W_exit | apply W_ret); try simp only [seqK, blockK, scopeK, ↓reduceIte, Nat.reduceEqDiff])
    | (with_reducible apply W_cond_k; intro _ _ ea eb; (simp only [condK, cob, opnd, constPV, Nat.reduceEqDiff, Nat.reduceLT, ↓reduceIte, hcb, reduceCtorEq, forall_const, ne_eq]); subst ea eb; first | (refine ⟨fun hc => ?_, fun hc => ?_⟩ <;> first | (exfalso; omega) | (exfalso; exact hc trivial) | skip) | skip)
    | (with_reducible apply hnx; clear hnx nx)
    | (with_reducible refine And.intro (by omega) ?_)
    | (with_reducible refine And.intro ?_ ?_)
    | (clear hnx nx; with_reducible apply hnx; clear hnx nx)
    | (clear hnx nx; clear hnx nx; with_reducible apply hnx; clear hnx nx)
    | (clear hnx nx; clear hnx nx; clear hnx nx; with_reducible apply hnx; clear hnx nx))
  refine W_loop_k (fun z τ => ∃ (m : Nat) (t : List UInt8), z = m ∧ m ≤ n ∧ t.length + m ≤ n ∧ decF n = decF m ++ t ∧ τ = ⟨fr 23 [(3, pstr t), (0, pn m)], []⟩) n
    ⟨fr 23 [(3, .val (.string ⟨#[]⟩)), (0, pn n)], []⟩ (by
    exact Wk_fr (by simp only [wkb, Nat.reduceEqDiff, Nat.reduceLT, ↓reduceIte, pn]) (Sub_nil _)) ⟨n, [], rfl, by omega, by simp, by simp, rfl⟩ ?_
  rintro m τ ⟨_, t, rfl, hm, htl, hd, rfl⟩ lp hlp
  have hw : ∀ k : Nat, k < 10 → IntKind.u8.wrap (48 + (k : Int)) = (UInt8.ofNat (48 + k)).toNat := fun k hk => by
    rw [wr8 _ (by omega) (by omega), UInt8.toNat_ofNat']
    omega
  by_cases h9 : m < 10
  · have hw1 := hw m h9
    rw [decF_lt h9] at hd
    generalize UInt8.ofNat (48 + m) = d at *
    have hu1 : unb (pint .u8 d.toNat) = d := List.singleton_inj.1 (unb_pb [d])
    have hu2 : isByte (pint .u8 d.toNat) = true := isByte_pbyte d
    repeat' (first
    | (with_reducible apply W_seq_k; intro nx hnx)
    | (with_reducible first | apply W_block | apply W_scope)
    | (with_reducible refine W_prune 13 ?_; simp only [prb, Nat.reducePow, Nat.reduceDiv, Nat.reduceMod, Nat.reduceBEq]; with_reducible apply W_region_l)
    | ((first | (with_reducible apply WL_op; intro nx hnx) | with_reducible refine Ev_out ?_ | (with_reducible refine pfresh_k hnm fun nm hnm => ?_; (try simp only [fmb] at hnm)) | (with_reducible refine pborn_mu hnm fun nm hnm => ?_; (try simp only [fmb] at hnm))); try (simp (maxSteps := 2000000) (disch := omega) only [evb, evd, pbuiltin, constPV, pnck, seqK, blockK, scopeK, pbin, pun, ppick, plen, piaddr, pindex, pfield, pslice, pbound, pconv, pelems, pextract, pmm, PV.mem?, PV.one, PV.cells, pageq, peqs, peq1, pmakes, pstore, pbytes, pmark, pusd, pust, psrc, pkey, pnile, pcap, pgrow, List.set, Value.cells, ↓popG_eq, ↓pop.eq_1, ↓List.getElem?_map, ↓List.getElem?_cons_zero, ↓List.getElem?_cons_succ, Value.oneCell', Nat.reduceAdd, Nat.reduceMul, Nat.reduceSub, Nat.reduceLeDiff, Nat.reduceEqDiff, ↓reduceIte, ne_eq, reduceCtorEq, forall_const, exists_and_left, exists_eq_left', eq_self, Nat.reduceLT, Int.reduceLT, Int.reduceLE, Int.reduceToNat, Int.reduceAdd, Int.reduceSub, Int.reduceNeg, hnm, Tryd.tf1, Tryd.tf3, Tryd.tf4, Tryd.tf5, Tryd.tf9, Tryd.tf40, Tryd.teq45, Tryd.teq94, Tryd.teq104, Tryd.teq113, Tryd.teq114, hw1, hu1, hu2]); repeat (refine And.intro (by omega) ?_))
    | ((with_reducible first | apply WL_nil | apply W_label | apply W_skip | apply W_exit | apply W_ret); try simp only [seqK, blockK, scopeK, ↓reduceIte, Nat.reduceEqDiff])
    | (with_reducible apply W_cond_k; intro _ _ ea eb; (simp only [condK, cob, opnd, constPV, Nat.reduceEqDiff, Nat.reduceLT, ↓reduceIte, hcb, reduceCtorEq, forall_const, ne_eq]); subst ea eb; first | (refine ⟨fun hc => ?_, fun hc => ?_⟩ <;> first | (exfalso; omega) | (exfalso; exact hc trivial) | skip) | skip)
    | (with_reducible apply hnx; clear hnx nx)
    | (with_reducible refine And.intro (by omega) ?_)
    | (with_reducible refine And.intro ?_ ?_)
    | (clear hnx nx; with_reducible apply hnx; clear hnx nx)
    | (clear hnx nx; clear hnx nx; with_reducible apply hnx; clear hnx nx)
    | (clear hnx nx; clear hnx nx; clear hnx nx; with_reducible apply hnx; clear hnx nx))
    all_goals first | exact absurd trivial hc | contradiction | exact fun h => False.elim h | (exfalso; omega) | (exfalso; have hc := of_decide_eq_false hc; omega) | (exfalso; simp only [Bool.not_false, Bool.not_true, decide_eq_true_eq, decide_eq_false_iff_not] at *; omega) | skip
    · exact (by kernel_rfl : Tryd.prog.underlying 5 = some (.int .u8))
    · refine hfin _ _ (Fin_ret1 rfl (Sub_nil _) ?_); simp only [List.getD_cons_zero, List.getD_cons_succ, fr_getD_cons, fr_getD_nil, Nat.reduceEqDiff, Nat.reduceLT, ↓reduceIte]
      exact ⟨by rw [hd]; rfl, by trivial⟩
  · have hw1 := hw (m % 10) (by omega)
    have e1 : ((m : Int)).tmod 10 = ((m % 10 : Nat) : Int) := by
      rw [Int.tmod_eq_emod_of_nonneg (by omega)]
      omega
    have e2 : ((m : Int)).tdiv 10 = ((m / 10 : Nat) : Int) := by
      rw [Int.tdiv_eq_ediv_of_nonneg (by omega)]
      omega
    rw [decF_ge h9] at hd
    generalize UInt8.ofNat (48 + m % 10) = d at *
    have hu1 : unb (pint .u8 d.toNat) = d := List.singleton_inj.1 (unb_pb [d])
    have hu2 : isByte (pint .u8 d.toNat) = true := isByte_pbyte d
    repeat' (first
    | (with_reducible apply W_seq_k; intro nx hnx)
    | (with_reducible first | apply W_block | apply W_scope)
    | (with_reducible refine W_prune 13 ?_; simp only [prb, Nat.reducePow, Nat.reduceDiv, Nat.reduceMod, Nat.reduceBEq]; with_reducible apply W_region_l)
    | ((first | (with_reducible apply WL_op; intro nx hnx) | with_reducible refine Ev_out ?_ | (with_reducible refine pfresh_k hnm fun nm hnm => ?_; (try simp only [fmb] at hnm)) | (with_reducible refine pborn_mu hnm fun nm hnm => ?_; (try simp only [fmb] at hnm))); try (simp (maxSteps := 2000000) (disch := omega) only [evb, evd, pbuiltin, constPV, pnck, seqK, blockK, scopeK, pbin, pun, ppick, plen, piaddr, pindex, pfield, pslice, pbound, pconv, pelems, pextract, pmm, PV.mem?, PV.one, PV.cells, pageq, peqs, peq1, pmakes, pstore, pbytes, pmark, pusd, pust, psrc, pkey, pnile, pcap, pgrow, List.set, Value.cells, ↓popG_eq, ↓pop.eq_1, ↓List.getElem?_map, ↓List.getElem?_cons_zero, ↓List.getElem?_cons_succ, Value.oneCell', Nat.reduceAdd, Nat.reduceMul, Nat.reduceSub, Nat.reduceLeDiff, Nat.reduceEqDiff, ↓reduceIte, ne_eq, reduceCtorEq, forall_const, exists_and_left, exists_eq_left', eq_self, Nat.reduceLT, Int.reduceLT, Int.reduceLE, Int.reduceToNat, Int.reduceAdd, Int.reduceSub, Int.reduceNeg, hnm, Tryd.tf1, Tryd.tf3, Tryd.tf4, Tryd.tf5, Tryd.tf9, Tryd.tf40, Tryd.teq45, Tryd.teq94, Tryd.teq104, Tryd.teq113, Tryd.teq114, hw1, e1, e2, hu1, hu2]); repeat (refine And.intro (by omega) ?_))
    | ((with_reducible first | apply WL_nil | apply W_label | apply W_skip | apply W_exit | apply W_ret); try simp only [seqK, blockK, scopeK, ↓reduceIte, Nat.reduceEqDiff])
    | (with_reducible apply W_cond_k; intro _ _ ea eb; (simp only [condK, cob, opnd, constPV, Nat.reduceEqDiff, Nat.reduceLT, ↓reduceIte, hcb, reduceCtorEq, forall_const, ne_eq]); subst ea eb; first | (refine ⟨fun hc => ?_, fun hc => ?_⟩ <;> first | (exfalso; omega) | (exfalso; exact hc trivial) | skip) | skip)
    | (with_reducible apply hnx; clear hnx nx)
    | (with_reducible refine And.intro (by omega) ?_)
    | (with_reducible refine And.intro ?_ ?_)
    | (clear hnx nx; with_reducible apply hnx; clear hnx nx)
    | (clear hnx nx; clear hnx nx; with_reducible apply hnx; clear hnx nx)
    | (clear hnx nx; clear hnx nx; clear hnx nx; with_reducible apply hnx; clear hnx nx))
    all_goals first | exact absurd trivial hc | contradiction | exact fun h => False.elim h | (exfalso; omega) | (exfalso; have hc := of_decide_eq_false hc; omega) | (exfalso; simp only [Bool.not_false, Bool.not_true, decide_eq_true_eq, decide_eq_false_iff_not] at *; omega) | skip
    · exact (by kernel_rfl : Tryd.prog.underlying 5 = some (.int .u8))
    · refine hlp _ (m / 10) ⟨fr 23 [(3, pstr (d :: t)), (0, pn (m / 10))], []⟩ (by omega) ?_ ⟨m / 10, d :: t, rfl, by omega, by simp; omega, by rw [hd]; simp, rfl⟩
      exact Wk_fr (by simp only [wkb, Nat.reduceEqDiff, Nat.reduceLT, ↓reduceIte, pn]) (Sub_nil _)
theorem valid_nums {a : List Ltr} (h : validF a = true) {j : Nat} (hj : j < a.length) : 0 ≤ a[j].base ∧ a[j].base < a.length ∧ 0 ≤ a[j].mark ∧ a[j].mark ≤ 15 ∧ 0 ≤ a[j].case_ ∧ a[j].case_ ≤ 1 ∧ 1 ≤ a[j].width ∧ a[j].width ≤ 1000 := by
  obtain ⟨k1, k2, k3, k4, k5, k6, k7, k8, k9, k10, k11⟩ := okLtr_iff.1 (okFrom_get (validF_iff.1 h).2.2.1 hj)
  exact ⟨k2, k3, k5, k6, k7, k8, k9, k10⟩
theorem decF_four {n : Nat} (h : n ≤ 1000) : (decF n).length ≤ 4 := by
  by_cases h1 : n < 10
  · rw [decF_lt h1]; simp
  rw [decF_ge h1]
  by_cases h2 : n / 10 < 10
  · rw [decF_lt h2]; simp
  rw [decF_ge h2]
  by_cases h3 : n / 10 / 10 < 10
  · rw [decF_lt h3]; simp
  rw [decF_ge h3, decF_lt (by omega)]
  simp
theorem rprint_c (G : Globs) (a : List Ltr) (ha : HA a) : PCalls Tryd.prog G 16 [ltsP a] [] (fun res H => res = pstr (printF a) ∧ H = []) := by
  have c1 := rvalid_c G a ha
  (refine PCalls_f Tryd.func16 rfl Tryd.ntmps16 Tryd.results16 (by simp) fun fin hfin => ?_; have hnm : True := trivial; simp (maxSteps := 2000000) (disch := omega) only [evb, evd, pbuiltin, constPV, pnck, seqK, blockK, scopeK, pbin, pun, ppick, plen, piaddr, pindex, pfield, pslice, pbound, pconv, pelems, pextract, pmm, PV.mem?, PV.one, PV.cells, pageq, peqs, peq1, pmakes, pstore, pbytes, pmark, pusd, pust, psrc, pkey, pnile, pcap, pgrow, List.set, Value.cells, ↓popG_eq, ↓pop.eq_1, ↓List.getElem?_map, ↓List.getElem?_cons_zero, ↓List.getElem?_cons_succ, Value.oneCell', Nat.reduceAdd, Nat.reduceMul, Nat.reduceSub, Nat.reduceLeDiff, Nat.reduceEqDiff, ↓reduceIte, ne_eq, reduceCtorEq, forall_const, exists_and_left, exists_eq_left', eq_self, Nat.reduceLT, Int.reduceLT, Int.reduceLE, Int.reduceToNat, Int.reduceAdd, Int.reduceSub, Int.reduceNeg, hnm, Tryd.tf0, Tryd.tf1, Tryd.tf2, Tryd.tf3, Tryd.tf4, Tryd.tf9, Tryd.tf23, Tryd.tf45, Tryd.teq45, Tryd.teq94, Tryd.teq104, Tryd.teq113, Tryd.teq114, Tryd.call34, Tryd.call36])
  repeat' (first
    | (with_reducible apply W_seq_k; intro nx hnx)
    | (with_reducible first | apply W_block | apply W_scope)
    | (with_reducible refine W_prune 29 ?_; simp only [prb, Nat.reducePow, Nat.reduceDiv, Nat.reduceMod, Nat.reduceBEq]; first | (with_reducible apply W_region_l) | with_reducible refine W_region_draw (id := 7) 1 (.op 0 true (.op 1 true (.op 2 true (.op 3 true (.op 4 true (.op 5 true (.op 6 true (.op 7 true (.op 8 true (.op 9 true (.op 10 true (.op 11 true (.op 12 true (.op 13 true (.op 14 true (.op 15 true (.op 16 true (.op 17 true (.op 18 true (.op 19 true (.op 20 true (.op 21 true (.op 22 true (.op 23 true (.op 27 true (.op 28 true (.op 29 true (.op 30 true (.op 31 true (.op 35 true (.op 36 true (.op 37 true (.op 38 true (.op 39 true (.op 24 true (.op 25 true (.op 26 true (.op 32 true (.op 33 true (.op 34 true (.op 40 true (.op 41 true (.op 42 true (.op 43 true (.done))))))))))))))))))))))))))))))))))))))))))))) (by kernel_rfl) ?_)
    | ((first | (with_reducible apply WL_op; intro nx hnx) | with_reducible refine Ev_out ?_ | (with_reducible apply popsD_op; intro nx hnx) | (with_reducible refine popsD_alt ?_ ?_; intro nx hnx)); try (simp (maxSteps := 2000000) (disch := omega) only [evb, evd, pbuiltin, constPV, pnck, seqK, blockK, scopeK, pbin, pun, ppick, plen, piaddr, pindex, pfield, pslice, pbound, pconv, pelems, pextract, pmm, PV.mem?, PV.one, PV.cells, pageq, peqs, peq1, pmakes, pstore, pbytes, pmark, pusd, pust, psrc, pkey, pnile, pcap, pgrow, List.set, Value.cells, ↓popG_eq, ↓pop.eq_1, ↓List.getElem?_map, ↓List.getElem?_cons_zero, ↓List.getElem?_cons_succ, Value.oneCell', Nat.reduceAdd, Nat.reduceMul, Nat.reduceSub, Nat.reduceLeDiff, Nat.reduceEqDiff, ↓reduceIte, ne_eq, reduceCtorEq, forall_const, exists_and_left, exists_eq_left', eq_self, Nat.reduceLT, Int.reduceLT, Int.reduceLE, Int.reduceToNat, Int.reduceAdd, Int.reduceSub, Int.reduceNeg, hnm, Tryd.tf0, Tryd.tf1, Tryd.tf2, Tryd.tf3, Tryd.tf4, Tryd.tf9, Tryd.tf23, Tryd.tf45, Tryd.teq45, Tryd.teq94, Tryd.teq104, Tryd.teq113, Tryd.teq114, Tryd.call34, Tryd.call36]); repeat (refine And.intro (by omega) ?_))
    | ((with_reducible first | apply WL_nil | apply W_label | apply W_skip | apply W_exit | apply W_ret | apply popsD_done); try simp only [seqK, blockK, scopeK, ↓reduceIte, Nat.reduceEqDiff])
    | with_reducible exact popsD_stop
    | (with_reducible apply W_cond_k; intro _ _ ea eb; (simp only [condK, cob, opnd, constPV, Nat.reduceEqDiff, Nat.reduceLT, ↓reduceIte, hcb, reduceCtorEq, forall_const, ne_eq]); subst ea eb; first | (refine ⟨fun hc => ?_, fun hc => ?_⟩ <;> first | (exfalso; omega) | (exfalso; exact hc trivial) | skip) | skip)
    | (with_reducible apply hnx; clear hnx nx)
    | (with_reducible refine And.intro (by omega) ?_)
    | (with_reducible refine And.intro ?_ ?_)
    | (with_reducible refine pcall_k (c1) ?_; rintro _ _ ⟨rfl, rfl⟩ -; refine Ev_in ?_)
    | (clear hnx nx; with_reducible apply hnx; clear hnx nx)
    | (clear hnx nx; clear hnx nx; with_reducible apply hnx; clear hnx nx)
    | (clear hnx nx; clear hnx nx; clear hnx nx; with_reducible apply hnx; clear hnx nx))
  all_goals first | exact absurd trivial hc | contradiction | exact fun h => False.elim h | (exfalso; omega) | (exfalso; have hc := of_decide_eq_false hc; omega) | (exfalso; simp only [Bool.not_false, Bool.not_true, decide_eq_true_eq, decide_eq_false_iff_not] at *; omega) | skip
  · have hv : validF a = false := by simpa using hc
    refine hfin _ _ (Fin_ret1 rfl (Sub_nil _) ?_); simp only [List.getD_cons_zero, List.getD_cons_succ, fr_getD_cons, fr_getD_nil, Nat.reduceEqDiff, Nat.reduceLT, ↓reduceIte]
    refine ⟨?_, by trivial⟩
    simp [printF, hv]
    rfl
  have hv : validF a = true := by simpa using hc
  obtain ⟨va, vb, vc, vd⟩ := validF_iff.1 hv
  refine W_loop_k (fun z τ => ∃ (i : Nat), i ≤ a.length ∧ z = a.length - i ∧ ((a.take i).flatMap (lineT a)).length ≤ 30 * i ∧ τ = ⟨fr 58 [(4, pn i), (3, pstr ((a.take i).flatMap (lineT a))), (0, ltsP a)], []⟩) a.length
    ⟨fr 58 [(4, pn 0), (3, .val (.string ⟨#[]⟩)), (0, ltsP a)], []⟩ (by
    exact Wk_fr (by simp only [wkb, Nat.reduceEqDiff, Nat.reduceLT, ↓reduceIte, pn]) (Sub_nil _)) ⟨0, by omega, by omega, by simp, rfl⟩ ?_
  rintro z τ ⟨i, hi, rfl, hlen, rfl⟩ lp hlp
  by_cases hil : i < a.length
  · have hsn : (a.take (i + 1)).flatMap (lineT a) = (a.take i).flatMap (lineT a) ++ lineT a a[i] := by
      rw [List.take_add_one, List.getElem?_eq_getElem hil, List.flatMap_append]
      simp
    obtain ⟨n1, n2, n3, n4, n5, n6, n7, n8⟩ := valid_nums hv hil
    have hj : a[i].base.toNat < a.length := by omega
    have hgi : a[i]? = some a[i] := List.getElem?_eq_getElem hil
    have hgj : a[a[i].base.toNat]? = some a[a[i].base.toNat] := List.getElem?_eq_getElem hj
    have t1 := (valid_text hv hil).2
    have t2 := (valid_text hv hj).2
    have d1 := rnumber_c G a[i].mark.toNat (by omega)
    have d2 := rnumber_c G a[i].case_.toNat (by omega)
    have d3 := rnumber_c G a[i].width.toNat (by omega)
    have l1 := decF_four (n := a[i].mark.toNat) (by omega)
    have l2 := decF_four (n := a[i].case_.toNat) (by omega)
    have l3 := decF_four (n := a[i].width.toNat) (by omega)
    have e1 : ((a[i].mark.toNat : Nat) : Int) = a[i].mark := by omega
    have e2 : ((a[i].case_.toNat : Nat) : Int) = a[i].case_ := by omega
    have e3 : ((a[i].width.toNat : Nat) : Int) = a[i].width := by omega
    rw [pn, e1] at d1
    rw [pn, e2] at d2
    rw [pn, e3] at d3
    have hline : lineT a a[i] = a[i].text ++ [32] ++ a[a[i].base.toNat].text ++ [32] ++ decF a[i].mark.toNat ++ [32] ++ decF a[i].case_.toNat ++ [32] ++ decF a[i].width.toNat ++ [10] := by
      rw [lineT, List.getD_eq_getElem?_getD, hgj]
      rfl
    have hll : (lineT a a[i]).length ≤ 30 := by
      rw [hline]
      simp only [List.length_append, List.length_singleton]
      omega
    rw [hline] at hsn
    generalize (a.take i).flatMap (lineT a) = T at *
    generalize decF a[i].mark.toNat = x1 at *
    generalize decF a[i].case_.toNat = x2 at *
    generalize decF a[i].width.toNat = x3 at *
    repeat' (first
    | (with_reducible apply W_seq_k; intro nx hnx)
    | (with_reducible first | apply W_block | apply W_scope)
    | (with_reducible refine W_prune 29 ?_; simp only [prb, Nat.reducePow, Nat.reduceDiv, Nat.reduceMod, Nat.reduceBEq]; first | (with_reducible apply W_region_l) | with_reducible refine W_region_draw (id := 7) 1 (.op 0 true (.op 1 true (.op 2 true (.op 3 true (.op 4 true (.op 5 true (.op 6 true (.op 7 true (.op 8 true (.op 9 true (.op 10 true (.op 11 true (.op 12 true (.op 13 true (.op 14 true (.op 15 true (.op 16 true (.op 17 true (.op 18 true (.op 19 true (.op 20 true (.op 21 true (.op 22 true (.op 23 true (.op 27 true (.op 28 true (.op 29 true (.op 30 true (.op 31 true (.op 35 true (.op 36 true (.op 37 true (.op 38 true (.op 39 true (.op 24 true (.op 25 true (.op 26 true (.op 32 true (.op 33 true (.op 34 true (.op 40 true (.op 41 true (.op 42 true (.op 43 true (.done))))))))))))))))))))))))))))))))))))))))))))) (by kernel_rfl) ?_)
    | ((first | (with_reducible apply WL_op; intro nx hnx) | with_reducible refine Ev_out ?_ | (with_reducible apply popsD_op; intro nx hnx) | (with_reducible refine popsD_alt ?_ ?_; intro nx hnx)); try (simp (maxSteps := 2000000) (disch := omega) only [evb, evd, pbuiltin, constPV, pnck, seqK, blockK, scopeK, pbin, pun, ppick, plen, piaddr, pindex, pfield, pslice, pbound, pconv, pelems, pextract, pmm, PV.mem?, PV.one, PV.cells, pageq, peqs, peq1, pmakes, pstore, pbytes, pmark, pusd, pust, psrc, pkey, pnile, pcap, pgrow, List.set, Value.cells, ↓popG_eq, ↓pop.eq_1, ↓List.getElem?_map, ↓List.getElem?_cons_zero, ↓List.getElem?_cons_succ, Value.oneCell', Nat.reduceAdd, Nat.reduceMul, Nat.reduceSub, Nat.reduceLeDiff, Nat.reduceEqDiff, ↓reduceIte, ne_eq, reduceCtorEq, forall_const, exists_and_left, exists_eq_left', eq_self, Nat.reduceLT, Int.reduceLT, Int.reduceLE, Int.reduceToNat, Int.reduceAdd, Int.reduceSub, Int.reduceNeg, hnm, Tryd.tf0, Tryd.tf1, Tryd.tf2, Tryd.tf3, Tryd.tf4, Tryd.tf9, Tryd.tf23, Tryd.tf45, Tryd.teq45, Tryd.teq94, Tryd.teq104, Tryd.teq113, Tryd.teq114, Tryd.call34, Tryd.call36, hgi, hgj]); repeat (refine And.intro (by omega) ?_))
    | ((with_reducible first | apply WL_nil | apply W_label | apply W_skip | apply W_exit | apply W_ret | apply popsD_done); try simp only [seqK, blockK, scopeK, ↓reduceIte, Nat.reduceEqDiff])
    | with_reducible exact popsD_stop
    | (with_reducible apply W_cond_k; intro _ _ ea eb; (simp only [condK, cob, opnd, constPV, Nat.reduceEqDiff, Nat.reduceLT, ↓reduceIte, hcb, reduceCtorEq, forall_const, ne_eq]); subst ea eb; first | (refine ⟨fun hc => ?_, fun hc => ?_⟩ <;> first | (exfalso; omega) | (exfalso; exact hc trivial) | skip) | skip)
    | (with_reducible apply hnx; clear hnx nx)
    | (with_reducible refine And.intro (by omega) ?_)
    | (with_reducible refine And.intro ?_ ?_)
    | (with_reducible refine pcall_k (d1) ?_; rintro _ _ ⟨rfl, rfl⟩ -; refine Ev_in ?_)
    | (with_reducible refine pcall_k (d2) ?_; rintro _ _ ⟨rfl, rfl⟩ -; refine Ev_in ?_)
    | (with_reducible refine pcall_k (d3) ?_; rintro _ _ ⟨rfl, rfl⟩ -; refine Ev_in ?_)
    | (clear hnx nx; with_reducible apply hnx; clear hnx nx)
    | (clear hnx nx; clear hnx nx; with_reducible apply hnx; clear hnx nx)
    | (clear hnx nx; clear hnx nx; clear hnx nx; with_reducible apply hnx; clear hnx nx))
    all_goals first | exact absurd trivial hc | contradiction | exact fun h => False.elim h | (exfalso; omega) | (exfalso; have hc := of_decide_eq_false hc; omega) | (exfalso; simp only [Bool.not_false, Bool.not_true, decide_eq_true_eq, decide_eq_false_iff_not] at *; omega) | skip
    refine hlp _ (a.length - (i + 1)) ⟨fr 58 [(4, pn (i + 1)), (3, pstr ((a.take (i + 1)).flatMap (lineT a))), (0, ltsP a)], []⟩ (by omega) ?_ ⟨i + 1, by omega, rfl, ?_, rfl⟩
    · rw [hsn]
      simp only [List.append_assoc]
      exact Wk_fr (by simp only [wkb, Nat.reduceEqDiff, Nat.reduceLT, ↓reduceIte, pn, List.append_assoc]) (Sub_nil _)
    · rw [hsn, ← hline, List.length_append]
      omega
  · have hi2 : i = a.length := by omega
    subst hi2
    rw [List.take_length]
    repeat' (first
    | (with_reducible apply W_seq_k; intro nx hnx)
    | (with_reducible first | apply W_block | apply W_scope)
    | (with_reducible refine W_prune 29 ?_; simp only [prb, Nat.reducePow, Nat.reduceDiv, Nat.reduceMod, Nat.reduceBEq]; first | (with_reducible apply W_region_l) | with_reducible refine W_region_draw (id := 7) 1 (.op 0 true (.op 1 true (.op 2 true (.op 3 true (.op 4 true (.op 5 true (.op 6 true (.op 7 true (.op 8 true (.op 9 true (.op 10 true (.op 11 true (.op 12 true (.op 13 true (.op 14 true (.op 15 true (.op 16 true (.op 17 true (.op 18 true (.op 19 true (.op 20 true (.op 21 true (.op 22 true (.op 23 true (.op 27 true (.op 28 true (.op 29 true (.op 30 true (.op 31 true (.op 35 true (.op 36 true (.op 37 true (.op 38 true (.op 39 true (.op 24 true (.op 25 true (.op 26 true (.op 32 true (.op 33 true (.op 34 true (.op 40 true (.op 41 true (.op 42 true (.op 43 true (.done))))))))))))))))))))))))))))))))))))))))))))) (by kernel_rfl) ?_)
    | ((first | (with_reducible apply WL_op; intro nx hnx) | with_reducible refine Ev_out ?_ | (with_reducible apply popsD_op; intro nx hnx) | (with_reducible refine popsD_alt ?_ ?_; intro nx hnx)); try (simp (maxSteps := 2000000) (disch := omega) only [evb, evd, pbuiltin, constPV, pnck, seqK, blockK, scopeK, pbin, pun, ppick, plen, piaddr, pindex, pfield, pslice, pbound, pconv, pelems, pextract, pmm, PV.mem?, PV.one, PV.cells, pageq, peqs, peq1, pmakes, pstore, pbytes, pmark, pusd, pust, psrc, pkey, pnile, pcap, pgrow, List.set, Value.cells, ↓popG_eq, ↓pop.eq_1, ↓List.getElem?_map, ↓List.getElem?_cons_zero, ↓List.getElem?_cons_succ, Value.oneCell', Nat.reduceAdd, Nat.reduceMul, Nat.reduceSub, Nat.reduceLeDiff, Nat.reduceEqDiff, ↓reduceIte, ne_eq, reduceCtorEq, forall_const, exists_and_left, exists_eq_left', eq_self, Nat.reduceLT, Int.reduceLT, Int.reduceLE, Int.reduceToNat, Int.reduceAdd, Int.reduceSub, Int.reduceNeg, hnm, Tryd.tf0, Tryd.tf1, Tryd.tf2, Tryd.tf3, Tryd.tf4, Tryd.tf9, Tryd.tf23, Tryd.tf45, Tryd.teq45, Tryd.teq94, Tryd.teq104, Tryd.teq113, Tryd.teq114, Tryd.call34, Tryd.call36]); repeat (refine And.intro (by omega) ?_))
    | ((with_reducible first | apply WL_nil | apply W_label | apply W_skip | apply W_exit | apply W_ret | apply popsD_done); try simp only [seqK, blockK, scopeK, ↓reduceIte, Nat.reduceEqDiff])
    | with_reducible exact popsD_stop
    | (with_reducible apply W_cond_k; intro _ _ ea eb; (simp only [condK, cob, opnd, constPV, Nat.reduceEqDiff, Nat.reduceLT, ↓reduceIte, hcb, reduceCtorEq, forall_const, ne_eq]); subst ea eb; first | (refine ⟨fun hc => ?_, fun hc => ?_⟩ <;> first | (exfalso; omega) | (exfalso; exact hc trivial) | skip) | skip)
    | (with_reducible apply hnx; clear hnx nx)
    | (with_reducible refine And.intro (by omega) ?_)
    | (with_reducible refine And.intro ?_ ?_)
    | (clear hnx nx; with_reducible apply hnx; clear hnx nx)
    | (clear hnx nx; clear hnx nx; with_reducible apply hnx; clear hnx nx)
    | (clear hnx nx; clear hnx nx; clear hnx nx; with_reducible apply hnx; clear hnx nx))
    all_goals first | exact absurd trivial hc | contradiction | exact fun h => False.elim h | (exfalso; omega) | (exfalso; have hc := of_decide_eq_false hc; omega) | (exfalso; simp only [Bool.not_false, Bool.not_true, decide_eq_true_eq, decide_eq_false_iff_not] at *; omega) | skip
    refine hfin _ _ (Fin_ret1 rfl (Sub_nil _) ?_); simp only [List.getD_cons_zero, List.getD_cons_succ, fr_getD_cons, fr_getD_nil, Nat.reduceEqDiff, Nat.reduceLT, ↓reduceIte]
    refine ⟨?_, by trivial⟩
    simp [printF, hv]
end Go.PM

namespace Go.PM
open Go.Proofs
attribute [local irreducible] W PCalls pcall pcallI WL
set_option maxRecDepth 100000
set_option maxHeartbeats 8000000
theorem take_snoc {s : List UInt8} {f i : Nat} (hf : f ≤ i) (hi : i < s.length) : (s.drop f).take (i + 1 - f) = (s.drop f).take (i - f) ++ [s[i]] := by
  rw [show i + 1 - f = (i - f) + 1 by omega, List.take_add_one, List.getElem?_drop, show f + (i - f) = i by omega, List.getElem?_eq_getElem hi]
  rfl
theorem rcut_r (G : Globs) (s : List UInt8) (c : UInt8) (hs : s.length ≤ 100000000) : PCalls Tryd.prog G 43 [pstr s, pbyte c] [] (CRS (splitF c s)) := by
  (refine PCalls_f Tryd.func43 rfl Tryd.ntmps43 Tryd.results43 (by simp) fun fin hfin => ?_; have hnm : True := trivial; simp (maxSteps := 2000000) (disch := omega) only [evb, evd, pbuiltin, constPV, pnck, seqK, blockK, scopeK, pbin, pun, ppick, plen, piaddr, pindex, pfield, pslice, pbound, pconv, pelems, pextract, pmm, PV.mem?, PV.one, PV.cells, pageq, peqs, peq1, pmakes, pstore, pbytes, pmark, pusd, pust, psrc, pkey, pnile, pcap, pgrow, List.set, Value.cells, ↓popG_eq, ↓pop.eq_1, ↓List.getElem?_map, ↓List.getElem?_cons_zero, ↓List.getElem?_cons_succ, Value.oneCell', Nat.reduceAdd, Nat.reduceMul, Nat.reduceSub, Nat.reduceLeDiff, Nat.reduceEqDiff, ↓reduceIte, ne_eq, reduceCtorEq, forall_const, exists_and_left, exists_eq_left', eq_self, Nat.reduceLT, Int.reduceLT, Int.reduceLE, Int.reduceToNat, Int.reduceAdd, Int.reduceSub, Int.reduceNeg, hnm, Tryd.tf1, Tryd.tf3, Tryd.tf4, Tryd.tf5, Tryd.tf9, Tryd.tf26, Tryd.teq45, Tryd.teq94, Tryd.teq104, Tryd.teq113, Tryd.teq114])
  repeat' (first
    | (with_reducible apply W_seq_k; intro nx hnx)
    | (with_reducible first | apply W_block | apply W_scope)
    | (with_reducible refine W_prune 243 ?_; simp only [prb, Nat.reducePow, Nat.reduceDiv, Nat.reduceMod, Nat.reduceBEq]; with_reducible apply W_region_l)
    | ((first | (with_reducible apply WL_op; intro nx hnx) | with_reducible refine Ev_out ?_ | (with_reducible refine pfresh_k hnm fun nm hnm => ?_; (try simp only [fmb] at hnm)) | (with_reducible refine pborn_mu hnm fun nm hnm => ?_; (try simp only [fmb] at hnm)) | (with_reducible refine pmaybe_k ?_; intro bn hbn)); try (simp (maxSteps := 2000000) (disch := omega) only [evb, evd, pbuiltin, constPV, pnck, seqK, blockK, scopeK, pbin, pun, ppick, plen, piaddr, pindex, pfield, pslice, pbound, pconv, pelems, pextract, pmm, PV.mem?, PV.one, PV.cells, pageq, peqs, peq1, pmakes, pstore, pbytes, pmark, pusd, pust, psrc, pkey, pnile, pcap, pgrow, List.set, Value.cells, ↓popG_eq, ↓pop.eq_1, ↓List.getElem?_map, ↓List.getElem?_cons_zero, ↓List.getElem?_cons_succ, Value.oneCell', Nat.reduceAdd, Nat.reduceMul, Nat.reduceSub, Nat.reduceLeDiff, Nat.reduceEqDiff, ↓reduceIte, ne_eq, reduceCtorEq, forall_const, exists_and_left, exists_eq_left', eq_self, Nat.reduceLT, Int.reduceLT, Int.reduceLE, Int.reduceToNat, Int.reduceAdd, Int.reduceSub, Int.reduceNeg, hnm, Tryd.tf1, Tryd.tf3, Tryd.tf4, Tryd.tf5, Tryd.tf9, Tryd.tf26, Tryd.teq45, Tryd.teq94, Tryd.teq104, Tryd.teq113, Tryd.teq114]); repeat (refine And.intro (by omega) ?_))
    | ((with_reducible first | apply WL_nil | apply W_label | apply W_skip | apply W_exit | apply W_ret); try simp only [seqK, blockK, scopeK, ↓reduceIte, Nat.reduceEqDiff])
    | (with_reducible apply W_cond_k; intro _ _ ea eb; (simp only [condK, cob, opnd, constPV, Nat.reduceEqDiff, Nat.reduceLT, ↓reduceIte, hcb, reduceCtorEq, forall_const, ne_eq]); subst ea eb; first | (refine ⟨fun hc => ?_, fun hc => ?_⟩ <;> first | (exfalso; omega) | (exfalso; exact hc trivial) | skip) | skip)
    | (with_reducible apply hnx; clear hnx nx)
    | (with_reducible refine And.intro (by omega) ?_)
    | (with_reducible refine And.intro ?_ ?_)
    | (clear hnx nx; with_reducible apply hnx; clear hnx nx)
    | (clear hnx nx; clear hnx nx; with_reducible apply hnx; clear hnx nx)
    | (clear hnx nx; clear hnx nx; clear hnx nx; with_reducible apply hnx; clear hnx nx))
  refine W_loop_k (fun z τ => ∃ (i f : Nat) (out : List (List UInt8)) (o : PV) (HO : Heap), i ≤ s.length ∧ f ≤ i ∧ z = s.length - i ∧ out.length ≤ i ∧ splitF c s = out ++ splitF c (s.drop f) ∧ c ∉ (s.drop f).take (i - f) ∧ CRS out o HO ∧ τ = ⟨fr 34 [(7, pn i), (6, pn f), (5, o), (1, pbyte c), (0, pstr s)], HO⟩) s.length
    ⟨fr 34 [(7, pn 0), (6, pn 0), (5, pnil), (1, pbyte c), (0, pstr s)], []⟩ (by
    exact Wk_fr (by simp only [wkb, Nat.reduceEqDiff, Nat.reduceLT, ↓reduceIte, pn]) (Sub_nil _)) ⟨0, 0, [], _, _, by omega, by omega, by omega, by simp, by simp, by simp, .inl ⟨rfl, rfl, rfl⟩, rfl⟩ ?_
  rintro z τ ⟨i, f, out, o, HO, hi, hf, rfl, hol, hsp, hcn, hC, rfl⟩ lp hlp
  refine W_nd fun nd => ?_
  by_cases hil : i < s.length
  · have hget : s.getD i 0 = s[i] := by rw [List.getD_eq_getElem?_getD, List.getElem?_eq_getElem hil]; rfl
    have htk := take_snoc hf hil
    have hdt : List.drop f (List.take i s) = (s.drop f).take (i - f) := List.drop_take ..
    by_cases hx : s[i] = c
    · have hdr : s.drop f = (s.drop f).take (i - f) ++ c :: s.drop (i + 1) := by
        conv => lhs; rw [← List.take_append_drop (i - f) (s.drop f)]
        rw [List.drop_drop, show f + (i - f) = i by omega, List.drop_eq_getElem_cons hil, hx]
      rw [hdr, splitF_cut hcn] at hsp
      rw [hx] at hget
      generalize (s.drop f).take (i - f) = t at *
      rcases hC with ⟨rfl, rfl, rfl⟩ | ⟨n, rfl, rfl⟩
      · repeat' (first
    | (with_reducible apply W_seq_k; intro nx hnx)
    | (with_reducible first | apply W_block | apply W_scope)
    | (with_reducible refine W_prune 243 ?_; simp only [prb, Nat.reducePow, Nat.reduceDiv, Nat.reduceMod, Nat.reduceBEq]; with_reducible apply W_region_l)
    | ((first | (with_reducible apply WL_op; intro nx hnx) | with_reducible refine Ev_out ?_ | (with_reducible refine pfresh_k hnm fun nm hnm => ?_; (try simp only [fmb] at hnm)) | (with_reducible refine pborn_mu hnm fun nm hnm => ?_; (try simp only [fmb] at hnm)) | (with_reducible refine pmaybe_k ?_; intro bn hbn)); try (simp (maxSteps := 2000000) (disch := omega) only [evb, evd, pbuiltin, constPV, pnck, seqK, blockK, scopeK, pbin, pun, ppick, plen, piaddr, pindex, pfield, pslice, pbound, pconv, pelems, pextract, pmm, PV.mem?, PV.one, PV.cells, pageq, peqs, peq1, pmakes, pstore, pbytes, pmark, pusd, pust, psrc, pkey, pnile, pcap, pgrow, List.set, Value.cells, ↓popG_eq, ↓pop.eq_1, ↓List.getElem?_map, ↓List.getElem?_cons_zero, ↓List.getElem?_cons_succ, Value.oneCell', Nat.reduceAdd, Nat.reduceMul, Nat.reduceSub, Nat.reduceLeDiff, Nat.reduceEqDiff, ↓reduceIte, ne_eq, reduceCtorEq, forall_const, exists_and_left, exists_eq_left', eq_self, Nat.reduceLT, Int.reduceLT, Int.reduceLE, Int.reduceToNat, Int.reduceAdd, Int.reduceSub, Int.reduceNeg, hnm, Tryd.tf1, Tryd.tf3, Tryd.tf4, Tryd.tf5, Tryd.tf9, Tryd.tf26, Tryd.teq45, Tryd.teq94, Tryd.teq104, Tryd.teq113, Tryd.teq114, hget, hdt]); repeat (refine And.intro (by omega) ?_))
    | ((with_reducible first | apply WL_nil | apply W_label | apply W_skip | apply W_exit | apply W_ret); try simp only [seqK, blockK, scopeK, ↓reduceIte, Nat.reduceEqDiff])
    | (with_reducible apply W_cond_k; intro _ _ ea eb; (simp only [condK, cob, opnd, constPV, Nat.reduceEqDiff, Nat.reduceLT, ↓reduceIte, hcb, reduceCtorEq, forall_const, ne_eq]); subst ea eb; first | (refine ⟨fun hc => ?_, fun hc => ?_⟩ <;> first | (exfalso; omega) | (exfalso; exact hc trivial) | skip) | skip)
    | (with_reducible apply hnx; clear hnx nx)
    | (with_reducible refine And.intro (by omega) ?_)
    | (with_reducible refine And.intro ?_ ?_)
    | (clear hnx nx; with_reducible apply hnx; clear hnx nx)
    | (clear hnx nx; clear hnx nx; with_reducible apply hnx; clear hnx nx)
    | (clear hnx nx; clear hnx nx; clear hnx nx; with_reducible apply hnx; clear hnx nx))
        all_goals first
          | exact absurd trivial hc
          | exact fun h => False.elim h
          | (exfalso
             omega)
          | skip
        all_goals
          refine hlp _ (s.length - (i + 1)) ⟨fr 34 [(7, pn (i + 1)), (6, pn (i + 1)), (5, .row nm 1 1), (1, pbyte c), (0, pstr s)], [(nm, ⟨9, true, 1, [pstr t]⟩)]⟩ (by omega) ?_ ⟨i + 1, i + 1, [t], _, _, by omega, by omega, rfl, by simp, by simpa using hsp, by simp, .inr ⟨nm, rfl, rfl⟩, rfl⟩
          refine Wk_fr (by simp only [wkb, Nat.reduceEqDiff, Nat.reduceLT, ↓reduceIte, pn]) ?_
          all_goals
            refine ⟨fun x hx => ?_, by simp [names, hnm]⟩
            simp only [List.mem_cons, List.not_mem_nil, or_false] at hx ⊢
            first
              | exact hx
              | exact .inl hx
      · repeat' (first
    | (with_reducible apply W_seq_k; intro nx hnx)
    | (with_reducible first | apply W_block | apply W_scope)
    | (with_reducible refine W_prune 243 ?_; simp only [prb, Nat.reducePow, Nat.reduceDiv, Nat.reduceMod, Nat.reduceBEq]; with_reducible apply W_region_l)
    | ((first | (with_reducible apply WL_op; intro nx hnx) | with_reducible refine Ev_out ?_ | (with_reducible refine pfresh_k hnm fun nm hnm => ?_; (try simp only [fmb] at hnm)) | (with_reducible refine pborn_mu hnm fun nm hnm => ?_; (try simp only [fmb] at hnm)) | (with_reducible refine pmaybe_k ?_; intro bn hbn)); try (simp (maxSteps := 2000000) (disch := omega) only [evb, evd, pbuiltin, constPV, pnck, seqK, blockK, scopeK, pbin, pun, ppick, plen, piaddr, pindex, pfield, pslice, pbound, pconv, pelems, pextract, pmm, PV.mem?, PV.one, PV.cells, pageq, peqs, peq1, pmakes, pstore, pbytes, pmark, pusd, pust, psrc, pkey, pnile, pcap, pgrow, List.set, Value.cells, ↓popG_eq, ↓pop.eq_1, ↓List.getElem?_map, ↓List.getElem?_cons_zero, ↓List.getElem?_cons_succ, Value.oneCell', Nat.reduceAdd, Nat.reduceMul, Nat.reduceSub, Nat.reduceLeDiff, Nat.reduceEqDiff, ↓reduceIte, ne_eq, reduceCtorEq, forall_const, exists_and_left, exists_eq_left', eq_self, Nat.reduceLT, Int.reduceLT, Int.reduceLE, Int.reduceToNat, Int.reduceAdd, Int.reduceSub, Int.reduceNeg, hnm, Tryd.tf1, Tryd.tf3, Tryd.tf4, Tryd.tf5, Tryd.tf9, Tryd.tf26, Tryd.teq45, Tryd.teq94, Tryd.teq104, Tryd.teq113, Tryd.teq114, hget, hdt]); repeat (refine And.intro (by omega) ?_))
    | ((with_reducible first | apply WL_nil | apply W_label | apply W_skip | apply W_exit | apply W_ret); try simp only [seqK, blockK, scopeK, ↓reduceIte, Nat.reduceEqDiff])
    | (with_reducible apply W_cond_k; intro _ _ ea eb; (simp only [condK, cob, opnd, constPV, Nat.reduceEqDiff, Nat.reduceLT, ↓reduceIte, hcb, reduceCtorEq, forall_const, ne_eq]); subst ea eb; first | (refine ⟨fun hc => ?_, fun hc => ?_⟩ <;> first | (exfalso; omega) | (exfalso; exact hc trivial) | skip) | skip)
    | (with_reducible apply hnx; clear hnx nx)
    | (with_reducible refine And.intro (by omega) ?_)
    | (with_reducible refine And.intro ?_ ?_)
    | (clear hnx nx; with_reducible apply hnx; clear hnx nx)
    | (clear hnx nx; clear hnx nx; with_reducible apply hnx; clear hnx nx)
    | (clear hnx nx; clear hnx nx; clear hnx nx; with_reducible apply hnx; clear hnx nx))
        all_goals first
          | exact absurd trivial hc
          | exact fun h => False.elim h
          | (exfalso
             omega)
          | skip
        all_goals
          have hl1 : (out ++ [t]).length = out.length + 1 := by simp
          refine hlp _ (s.length - (i + 1)) ⟨fr 34 [(7, pn (i + 1)), (6, pn (i + 1)), (5, .row nm 1 (out ++ [t]).length), (1, pbyte c), (0, pstr s)], [(nm, ⟨9, true, 1, (out ++ [t]).map pstr⟩)]⟩ (by omega) ?_ ⟨i + 1, i + 1, out ++ [t], _, _, by omega, by omega, rfl, by omega, by simpa using hsp, by simp, .inr ⟨nm, rfl, rfl⟩, rfl⟩
          refine Wk_fr (by simp only [wkb, Nat.reduceEqDiff, Nat.reduceLT, ↓reduceIte, pn, hl1]) ?_
          all_goals
            (try rw [List.map_append])
            refine ⟨fun x hx => ?_, by simp [names, hnm]⟩
            simp only [List.mem_cons, List.not_mem_nil, or_false] at hx ⊢
            first
              | exact hx
              | exact .inl hx
    · have hcn2 : c ∉ (s.drop f).take (i + 1 - f) := by
        rw [htk, List.mem_append, List.mem_singleton, not_or]
        exact ⟨hcn, fun e => hx e.symm⟩
      generalize s[i] = d at *
      have hxd : ¬ d.toNat = c.toNat := fun e => hx (UInt8.toNat_inj.1 e)
      repeat' (first
    | (with_reducible apply W_seq_k; intro nx hnx)
    | (with_reducible first | apply W_block | apply W_scope)
    | (with_reducible refine W_prune 243 ?_; simp only [prb, Nat.reducePow, Nat.reduceDiv, Nat.reduceMod, Nat.reduceBEq]; with_reducible apply W_region_l)
    | ((first | (with_reducible apply WL_op; intro nx hnx) | with_reducible refine Ev_out ?_ | (with_reducible refine pfresh_k hnm fun nm hnm => ?_; (try simp only [fmb] at hnm)) | (with_reducible refine pborn_mu hnm fun nm hnm => ?_; (try simp only [fmb] at hnm)) | (with_reducible refine pmaybe_k ?_; intro bn hbn)); try (simp (maxSteps := 2000000) (disch := omega) only [evb, evd, pbuiltin, constPV, pnck, seqK, blockK, scopeK, pbin, pun, ppick, plen, piaddr, pindex, pfield, pslice, pbound, pconv, pelems, pextract, pmm, PV.mem?, PV.one, PV.cells, pageq, peqs, peq1, pmakes, pstore, pbytes, pmark, pusd, pust, psrc, pkey, pnile, pcap, pgrow, List.set, Value.cells, ↓popG_eq, ↓pop.eq_1, ↓List.getElem?_map, ↓List.getElem?_cons_zero, ↓List.getElem?_cons_succ, Value.oneCell', Nat.reduceAdd, Nat.reduceMul, Nat.reduceSub, Nat.reduceLeDiff, Nat.reduceEqDiff, ↓reduceIte, ne_eq, reduceCtorEq, forall_const, exists_and_left, exists_eq_left', eq_self, Nat.reduceLT, Int.reduceLT, Int.reduceLE, Int.reduceToNat, Int.reduceAdd, Int.reduceSub, Int.reduceNeg, hnm, Tryd.tf1, Tryd.tf3, Tryd.tf4, Tryd.tf5, Tryd.tf9, Tryd.tf26, Tryd.teq45, Tryd.teq94, Tryd.teq104, Tryd.teq113, Tryd.teq114, hget]); repeat (refine And.intro (by omega) ?_))
    | ((with_reducible first | apply WL_nil | apply W_label | apply W_skip | apply W_exit | apply W_ret); try simp only [seqK, blockK, scopeK, ↓reduceIte, Nat.reduceEqDiff])
    | (with_reducible apply W_cond_k; intro _ _ ea eb; (simp only [condK, cob, opnd, constPV, Nat.reduceEqDiff, Nat.reduceLT, ↓reduceIte, hcb, reduceCtorEq, forall_const, ne_eq]); subst ea eb; first | (refine ⟨fun hc => ?_, fun hc => ?_⟩ <;> first | (exfalso; omega) | (exfalso; exact hc trivial) | skip) | skip)
    | (with_reducible apply hnx; clear hnx nx)
    | (with_reducible refine And.intro (by omega) ?_)
    | (with_reducible refine And.intro ?_ ?_)
    | (clear hnx nx; with_reducible apply hnx; clear hnx nx)
    | (clear hnx nx; clear hnx nx; with_reducible apply hnx; clear hnx nx)
    | (clear hnx nx; clear hnx nx; clear hnx nx; with_reducible apply hnx; clear hnx nx))
      all_goals first
        | exact absurd trivial hc
        | exact fun h => False.elim h
        | exact absurd hc hx
        | (exfalso
           omega)
        | skip
      all_goals
        refine hlp _ (s.length - (i + 1)) ⟨fr 34 [(7, pn (i + 1)), (6, pn f), (5, o), (1, pbyte c), (0, pstr s)], HO⟩ (by omega) ?_ ⟨i + 1, f, out, _, _, by omega, by omega, rfl, by omega, hsp, hcn2, hC, rfl⟩
        refine Wk_fr (by simp only [wkb, Nat.reduceEqDiff, Nat.reduceLT, ↓reduceIte, pn]) ?_
        all_goals exact Sub_refl nd
  · have hi2 : i = s.length := by omega
    subst hi2
    have hfin2 : splitF c (s.drop f) = [s.drop f] := by
      refine splitF_none fun h => hcn ?_
      rw [List.take_of_length_le (by simp)]
      exact h
    rw [hfin2] at hsp
    have hdt : List.drop f (List.take s.length s) = s.drop f := by rw [List.take_length]
    generalize s.drop f = t at *
    rcases hC with ⟨rfl, rfl, rfl⟩ | ⟨n, rfl, rfl⟩
    · repeat' (first
    | (with_reducible apply W_seq_k; intro nx hnx)
    | (with_reducible first | apply W_block | apply W_scope)
    | (with_reducible refine W_prune 243 ?_; simp only [prb, Nat.reducePow, Nat.reduceDiv, Nat.reduceMod, Nat.reduceBEq]; with_reducible apply W_region_l)
    | ((first | (with_reducible apply WL_op; intro nx hnx) | with_reducible refine Ev_out ?_ | (with_reducible refine pfresh_k hnm fun nm hnm => ?_; (try simp only [fmb] at hnm)) | (with_reducible refine pborn_mu hnm fun nm hnm => ?_; (try simp only [fmb] at hnm)) | (with_reducible refine pmaybe_k ?_; intro bn hbn)); try (simp (maxSteps := 2000000) (disch := omega) only [evb, evd, pbuiltin, constPV, pnck, seqK, blockK, scopeK, pbin, pun, ppick, plen, piaddr, pindex, pfield, pslice, pbound, pconv, pelems, pextract, pmm, PV.mem?, PV.one, PV.cells, pageq, peqs, peq1, pmakes, pstore, pbytes, pmark, pusd, pust, psrc, pkey, pnile, pcap, pgrow, List.set, Value.cells, ↓popG_eq, ↓pop.eq_1, ↓List.getElem?_map, ↓List.getElem?_cons_zero, ↓List.getElem?_cons_succ, Value.oneCell', Nat.reduceAdd, Nat.reduceMul, Nat.reduceSub, Nat.reduceLeDiff, Nat.reduceEqDiff, ↓reduceIte, ne_eq, reduceCtorEq, forall_const, exists_and_left, exists_eq_left', eq_self, Nat.reduceLT, Int.reduceLT, Int.reduceLE, Int.reduceToNat, Int.reduceAdd, Int.reduceSub, Int.reduceNeg, hnm, Tryd.tf1, Tryd.tf3, Tryd.tf4, Tryd.tf5, Tryd.tf9, Tryd.tf26, Tryd.teq45, Tryd.teq94, Tryd.teq104, Tryd.teq113, Tryd.teq114, hdt]); repeat (refine And.intro (by omega) ?_))
    | ((with_reducible first | apply WL_nil | apply W_label | apply W_skip | apply W_exit | apply W_ret); try simp only [seqK, blockK, scopeK, ↓reduceIte, Nat.reduceEqDiff])
    | (with_reducible apply W_cond_k; intro _ _ ea eb; (simp only [condK, cob, opnd, constPV, Nat.reduceEqDiff, Nat.reduceLT, ↓reduceIte, hcb, reduceCtorEq, forall_const, ne_eq]); subst ea eb; first | (refine ⟨fun hc => ?_, fun hc => ?_⟩ <;> first | (exfalso; omega) | (exfalso; exact hc trivial) | skip) | skip)
    | (with_reducible apply hnx; clear hnx nx)
    | (with_reducible refine And.intro (by omega) ?_)
    | (with_reducible refine And.intro ?_ ?_)
    | (clear hnx nx; with_reducible apply hnx; clear hnx nx)
    | (clear hnx nx; clear hnx nx; with_reducible apply hnx; clear hnx nx)
    | (clear hnx nx; clear hnx nx; clear hnx nx; with_reducible apply hnx; clear hnx nx))
      all_goals first
        | exact absurd trivial hc
        | exact fun h => False.elim h
        | (exfalso
           omega)
        | skip
      all_goals
        refine hfin _ _ (Fin_ret1 rfl (H := [(nm, ⟨9, true, 1, [pstr t]⟩)]) ?_ ?_)
        · refine ⟨fun x hx => ?_, by simp [names, hnm]⟩
          simp only [List.mem_cons, List.not_mem_nil, or_false] at hx ⊢
          first
            | exact hx
            | exact .inl hx
        · simp only [fr_getD_cons, Nat.reduceEqDiff, Nat.reduceLT, ↓reduceIte]
          rw [hsp]
          exact .inr ⟨nm, rfl, rfl⟩
    · repeat' (first
    | (with_reducible apply W_seq_k; intro nx hnx)
    | (with_reducible first | apply W_block | apply W_scope)
    | (with_reducible refine W_prune 243 ?_; simp only [prb, Nat.reducePow, Nat.reduceDiv, Nat.reduceMod, Nat.reduceBEq]; with_reducible apply W_region_l)
    | ((first | (with_reducible apply WL_op; intro nx hnx) | with_reducible refine Ev_out ?_ | (with_reducible refine pfresh_k hnm fun nm hnm => ?_; (try simp only [fmb] at hnm)) | (with_reducible refine pborn_mu hnm fun nm hnm => ?_; (try simp only [fmb] at hnm)) | (with_reducible refine pmaybe_k ?_; intro bn hbn)); try (simp (maxSteps := 2000000) (disch := omega) only [evb, evd, pbuiltin, constPV, pnck, seqK, blockK, scopeK, pbin, pun, ppick, plen, piaddr, pindex, pfield, pslice, pbound, pconv, pelems, pextract, pmm, PV.mem?, PV.one, PV.cells, pageq, peqs, peq1, pmakes, pstore, pbytes, pmark, pusd, pust, psrc, pkey, pnile, pcap, pgrow, List.set, Value.cells, ↓popG_eq, ↓pop.eq_1, ↓List.getElem?_map, ↓List.getElem?_cons_zero, ↓List.getElem?_cons_succ, Value.oneCell', Nat.reduceAdd, Nat.reduceMul, Nat.reduceSub, Nat.reduceLeDiff, Nat.reduceEqDiff, ↓reduceIte, ne_eq, reduceCtorEq, forall_const, exists_and_left, exists_eq_left', eq_self, Nat.reduceLT, Int.reduceLT, Int.reduceLE, Int.reduceToNat, Int.reduceAdd, Int.reduceSub, Int.reduceNeg, hnm, Tryd.tf1, Tryd.tf3, Tryd.tf4, Tryd.tf5, Tryd.tf9, Tryd.tf26, Tryd.teq45, Tryd.teq94, Tryd.teq104, Tryd.teq113, Tryd.teq114, hdt]); repeat (refine And.intro (by omega) ?_))
    | ((with_reducible first | apply WL_nil | apply W_label | apply W_skip | apply W_exit | apply W_ret); try simp only [seqK, blockK, scopeK, ↓reduceIte, Nat.reduceEqDiff])
    | (with_reducible apply W_cond_k; intro _ _ ea eb; (simp only [condK, cob, opnd, constPV, Nat.reduceEqDiff, Nat.reduceLT, ↓reduceIte, hcb, reduceCtorEq, forall_const, ne_eq]); subst ea eb; first | (refine ⟨fun hc => ?_, fun hc => ?_⟩ <;> first | (exfalso; omega) | (exfalso; exact hc trivial) | skip) | skip)
    | (with_reducible apply hnx; clear hnx nx)
    | (with_reducible refine And.intro (by omega) ?_)
    | (with_reducible refine And.intro ?_ ?_)
    | (clear hnx nx; with_reducible apply hnx; clear hnx nx)
    | (clear hnx nx; clear hnx nx; with_reducible apply hnx; clear hnx nx)
    | (clear hnx nx; clear hnx nx; clear hnx nx; with_reducible apply hnx; clear hnx nx))
      all_goals first
        | exact absurd trivial hc
        | exact fun h => False.elim h
        | (exfalso
           omega)
        | skip
      all_goals
        refine hfin _ _ (Fin_ret1 rfl (H := [(nm, ⟨9, true, 1, (out ++ [t]).map pstr⟩)]) ?_ ?_)
        · rw [List.map_append]
          refine ⟨fun x hx => ?_, by simp [names, hnm]⟩
          simp only [List.mem_cons, List.not_mem_nil, or_false] at hx ⊢
          first
            | exact hx
            | exact .inl hx
        · simp only [fr_getD_cons, Nat.reduceEqDiff, Nat.reduceLT, ↓reduceIte]
          rw [hsp]
          exact .inr ⟨nm, by simp, rfl⟩
theorem rcut_c (G : Globs) (s : List UInt8) (c : UInt8) (hs : s.length ≤ 100000000) : PCalls Tryd.prog G 43 [pstr s, pbyte c] [] (fun res H => res = .list 1 ((splitF c s).map pstr) ∧ H = []) := CRS.frz (rcut_r G s c hs)
end Go.PM

namespace Go.PM
open Go.Proofs
attribute [local irreducible] W PCalls pcall pcallI WL
set_option maxRecDepth 100000
set_option maxHeartbeats 8000000
theorem numB_bad {s : List UInt8} (h : ¬ (1 ≤ s.length ∧ s.length ≤ 6 ∧ ¬ (1 < s.length ∧ (s.getD 0 0).toNat = 48))) : numB s = false := by
  cases hb : numB s with
  | false => rfl
  | true =>
    exfalso
    apply h
    unfold numB at hb
    simp only [Bool.and_eq_true, Bool.not_eq_true', Bool.and_eq_false_iff, decide_eq_true_eq, decide_eq_false_iff_not] at hb
    omega
theorem numB_dig {s : List UInt8} (h : 1 ≤ s.length ∧ s.length ≤ 6 ∧ ¬ (1 < s.length ∧ (s.getD 0 0).toNat = 48)) : numB s = s.all dig := by
  obtain ⟨h1, h2, h3⟩ := h
  simp only [numB]
  rw [decide_eq_true h1, decide_eq_true h2, ← Bool.decide_and, decide_eq_false h3]
  simp
theorem rdigits_c (G : Globs) (s : List UInt8) (hs : (s.length : Int) ≤ 9223372036854775807) : PCalls Tryd.prog G 55 [pstr s, .val (.int .i64 6)] [] (fun res H => res = .tuple [pint .i64 (numF s).1, pbool (numF s).2] ∧ H = []) := by
  (refine PCalls_f Tryd.func55 rfl Tryd.ntmps55 Tryd.results55 (by simp) fun fin hfin => ?_; have hnm : True := trivial; simp (maxSteps := 2000000) (disch := omega) only [evb, evd, pbuiltin, constPV, pnck, seqK, blockK, scopeK, pbin, pun, ppick, plen, piaddr, pindex, pfield, pslice, pbound, pconv, pelems, pextract, pmm, PV.mem?, PV.one, PV.cells, pageq, peqs, peq1, pmakes, pstore, pbytes, pmark, pusd, pust, psrc, pkey, pnile, pcap, pgrow, List.set, Value.cells, ↓popG_eq, ↓pop.eq_1, ↓List.getElem?_map, ↓List.getElem?_cons_zero, ↓List.getElem?_cons_succ, Value.oneCell', Nat.reduceAdd, Nat.reduceMul, Nat.reduceSub, Nat.reduceLeDiff, Nat.reduceEqDiff, ↓reduceIte, ne_eq, reduceCtorEq, forall_const, exists_and_left, exists_eq_left', eq_self, Nat.reduceLT, Int.reduceLT, Int.reduceLE, Int.reduceToNat, Int.reduceAdd, Int.reduceSub, Int.reduceNeg, hnm, Tryd.tf3, Tryd.tf4, Tryd.tf5, Tryd.tf9, Tryd.teq45, Tryd.teq94, Tryd.teq104, Tryd.teq113, Tryd.teq114])
  repeat' (first
    | (with_reducible apply W_seq_k; intro nx hnx)
    | (with_reducible first | apply W_block | apply W_scope)
    | (with_reducible refine W_prune 243 ?_; simp only [prb, Nat.reducePow, Nat.reduceDiv, Nat.reduceMod, Nat.reduceBEq]; with_reducible apply W_region_l)
    | ((first | (with_reducible apply WL_op; intro nx hnx) | with_reducible refine Ev_out ?_ | (with_reducible refine pfresh_k hnm fun nm hnm => ?_; (try simp only [fmb] at hnm)) | (with_reducible refine pborn_mu hnm fun nm hnm => ?_; (try simp only [fmb] at hnm))); try (simp (maxSteps := 2000000) (disch := omega) only [evb, evd, pbuiltin, constPV, pnck, seqK, blockK, scopeK, pbin, pun, ppick, plen, piaddr, pindex, pfield, pslice, pbound, pconv, pelems, pextract, pmm, PV.mem?, PV.one, PV.cells, pageq, peqs, peq1, pmakes, pstore, pbytes, pmark, pusd, pust, psrc, pkey, pnile, pcap, pgrow, List.set, Value.cells, ↓popG_eq, ↓pop.eq_1, ↓List.getElem?_map, ↓List.getElem?_cons_zero, ↓List.getElem?_cons_succ, Value.oneCell', Nat.reduceAdd, Nat.reduceMul, Nat.reduceSub, Nat.reduceLeDiff, Nat.reduceEqDiff, ↓reduceIte, ne_eq, reduceCtorEq, forall_const, exists_and_left, exists_eq_left', eq_self, Nat.reduceLT, Int.reduceLT, Int.reduceLE, Int.reduceToNat, Int.reduceAdd, Int.reduceSub, Int.reduceNeg, hnm, Tryd.tf3, Tryd.tf4, Tryd.tf5, Tryd.tf9, Tryd.teq45, Tryd.teq94, Tryd.teq104, Tryd.teq113, Tryd.teq114]); repeat (refine And.intro (by omega) ?_))
    | ((with_reducible first | apply WL_nil | apply W_label | apply W_skip | apply W_exit | apply W_ret); try simp only [seqK, blockK, scopeK, ↓reduceIte, Nat.reduceEqDiff])
    | (with_reducible apply pguard_intro <;> (intro hc; (try simp only [hcb, reduceCtorEq, forall_const, ne_eq] at hc); first | (exfalso; omega) | (exfalso; exact hc trivial) | refine Ev_in ?_))
    | (with_reducible apply W_cond_k; intro _ _ ea eb; (simp only [condK, cob, opnd, constPV, Nat.reduceEqDiff, Nat.reduceLT, ↓reduceIte, hcb, reduceCtorEq, forall_const, ne_eq]); subst ea eb; first | (refine ⟨fun hc => ?_, fun hc => ?_⟩ <;> first | (exfalso; omega) | (exfalso; exact hc trivial) | skip) | skip)
    | (with_reducible apply hnx; clear hnx nx)
    | (with_reducible refine And.intro (by omega) ?_)
    | (with_reducible refine And.intro ?_ ?_)
    | (clear hnx nx; with_reducible apply hnx; clear hnx nx)
    | (clear hnx nx; clear hnx nx; with_reducible apply hnx; clear hnx nx)
    | (clear hnx nx; clear hnx nx; clear hnx nx; with_reducible apply hnx; clear hnx nx))
  all_goals first
    | exact absurd trivial hc
    | exact fun h => False.elim h
    | (exfalso
       omega)
    | skip
  all_goals first
    | (have hn : numB s = false := numB_bad (by omega)
       refine hfin _ _ (Fin_ret2 rfl rfl (Sub_nil _) ?_); simp only [List.getD_cons_zero, List.getD_cons_succ, fr_getD_cons, fr_getD_nil, Nat.reduceEqDiff, Nat.reduceLT, ↓reduceIte]
       exact ⟨by simp [numF, hn], by trivial⟩)
    | skip
  all_goals
    have hz : 1 ≤ s.length ∧ s.length ≤ 6 ∧ ¬ (1 < s.length ∧ (s.getD 0 0).toNat = 48) := by omega
    have hz2 := numB_dig hz
    obtain ⟨hl1, hl2, hl3⟩ := hz
    clear hc
    refine W_loop_k (fun z τ => ∃ i : Nat, i ≤ s.length ∧ z = s.length - i ∧ s.all dig = (s.drop i).all dig ∧ 0 ≤ valN (s.take i) ∧ valN (s.take i) < 10 ^ i ∧ τ = ⟨fr 52 [(7, pn i), (6, pint .i64 (valN (s.take i))), (0, pstr s)], []⟩) s.length
      ⟨fr 52 [(7, pn 0), (6, pint .i64 (valN (s.take 0))), (0, pstr s)], []⟩ (by
      exact Wk_fr (by simp only [wkb, Nat.reduceEqDiff, Nat.reduceLT, ↓reduceIte, pn, List.take_zero, valN, List.foldl_nil]) (Sub_nil _)) ⟨0, by omega, by omega, rfl, by simp [valN], by simp [valN], rfl⟩ ?_
    rintro z τ ⟨i, hi, rfl, hall, hv0, hv1, rfl⟩ lp hlp
    have h10 : (10 : Int) ^ i ≤ 10 ^ 6 := by
      have : (10 : Nat) ^ i ≤ 10 ^ 6 := Nat.pow_le_pow_right (by omega) (by omega)
      exact_mod_cast this
    by_cases hil : i < s.length
    · rw [List.drop_eq_getElem_cons hil, List.all_cons] at hall
      have hget : s.getD i 0 = s[i] := by rw [List.getD_eq_getElem?_getD, List.getElem?_eq_getElem hil]; rfl
      have hsn : s.take (i + 1) = s.take i ++ [s[i]] := by rw [List.take_add_one, List.getElem?_eq_getElem hil]; rfl
      have hvn : valN (s.take (i + 1)) = 10 * valN (s.take i) + ((s[i].toNat : Int) - 48) := by rw [hsn, valN_snoc]
      have hcb : (s[i].toNat : Int) < 256 := by have := s[i].toNat_lt; omega
      by_cases hd : 48 ≤ (s[i].toNat : Int) ∧ (s[i].toNat : Int) ≤ 57
      · have hdig : dig s[i] = true := by simp [dig, hd]
        rw [hdig, Bool.true_and] at hall
        generalize s[i] = c at *
        have hw8 : IntKind.u8.wrap ((c.toNat : Int) - 48) = (c.toNat : Int) - 48 := wr8 _ (by omega) (by omega)
        generalize valN (s.take i) = n at *
        repeat' (first
    | (with_reducible apply W_seq_k; intro nx hnx)
    | (with_reducible first | apply W_block | apply W_scope)
    | (with_reducible refine W_prune 243 ?_; simp only [prb, Nat.reducePow, Nat.reduceDiv, Nat.reduceMod, Nat.reduceBEq]; with_reducible apply W_region_l)
    | ((first | (with_reducible apply WL_op; intro nx hnx) | with_reducible refine Ev_out ?_ | (with_reducible refine pfresh_k hnm fun nm hnm => ?_; (try simp only [fmb] at hnm)) | (with_reducible refine pborn_mu hnm fun nm hnm => ?_; (try simp only [fmb] at hnm))); try (simp (maxSteps := 2000000) (disch := omega) only [evb, evd, pbuiltin, constPV, pnck, seqK, blockK, scopeK, pbin, pun, ppick, plen, piaddr, pindex, pfield, pslice, pbound, pconv, pelems, pextract, pmm, PV.mem?, PV.one, PV.cells, pageq, peqs, peq1, pmakes, pstore, pbytes, pmark, pusd, pust, psrc, pkey, pnile, pcap, pgrow, List.set, Value.cells, ↓popG_eq, ↓pop.eq_1, ↓List.getElem?_map, ↓List.getElem?_cons_zero, ↓List.getElem?_cons_succ, Value.oneCell', Nat.reduceAdd, Nat.reduceMul, Nat.reduceSub, Nat.reduceLeDiff, Nat.reduceEqDiff, ↓reduceIte, ne_eq, reduceCtorEq, forall_const, exists_and_left, exists_eq_left', eq_self, Nat.reduceLT, Int.reduceLT, Int.reduceLE, Int.reduceToNat, Int.reduceAdd, Int.reduceSub, Int.reduceNeg, hnm, Tryd.tf3, Tryd.tf4, Tryd.tf5, Tryd.tf9, Tryd.teq45, Tryd.teq94, Tryd.teq104, Tryd.teq113, Tryd.teq114, hget, hw8]); repeat (refine And.intro (by omega) ?_))
    | ((with_reducible first | apply WL_nil | apply W_label | apply W_skip | apply W_exit | apply W_ret); try simp only [seqK, blockK, scopeK, ↓reduceIte, Nat.reduceEqDiff])
    | (with_reducible apply pguard_intro <;> (intro hc; (try simp only [hcb, reduceCtorEq, forall_const, ne_eq] at hc); first | (exfalso; omega) | (exfalso; exact hc trivial) | refine Ev_in ?_))
    | (with_reducible apply W_cond_k; intro _ _ ea eb; (simp only [condK, cob, opnd, constPV, Nat.reduceEqDiff, Nat.reduceLT, ↓reduceIte, hcb, reduceCtorEq, forall_const, ne_eq]); subst ea eb; first | (refine ⟨fun hc => ?_, fun hc => ?_⟩ <;> first | (exfalso; omega) | (exfalso; exact hc trivial) | skip) | skip)
    | (with_reducible apply hnx; clear hnx nx)
    | (with_reducible refine And.intro (by omega) ?_)
    | (with_reducible refine And.intro ?_ ?_)
    | (clear hnx nx; with_reducible apply hnx; clear hnx nx)
    | (clear hnx nx; clear hnx nx; with_reducible apply hnx; clear hnx nx)
    | (clear hnx nx; clear hnx nx; clear hnx nx; with_reducible apply hnx; clear hnx nx))
        all_goals first | exact absurd trivial hc | contradiction | exact fun h => False.elim h | (exfalso; omega) | (exfalso; have hc := of_decide_eq_false hc; omega) | (exfalso; simp only [Bool.not_false, Bool.not_true, decide_eq_true_eq, decide_eq_false_iff_not] at *; omega) | skip
        all_goals
          refine hlp _ (s.length - (i + 1)) _ (by omega) ?_ ⟨i + 1, by omega, rfl, hall, by rw [hvn]; omega, by rw [hvn, Int.pow_succ]; omega, rfl⟩
          rw [hvn]
          exact Wk_fr (by simp only [wkb, Nat.reduceEqDiff, Nat.reduceLT, ↓reduceIte, pn]) (Sub_nil _)
      · have hdig : dig s[i] = false := by
          simp only [dig]
          by_cases h1 : 48 ≤ (s[i].toNat : Int)
          · have h2 : ¬ (s[i].toNat : Int) ≤ 57 := fun h => hd ⟨h1, h⟩
            rw [decide_eq_false h2, Bool.and_false]
          · rw [decide_eq_false h1, Bool.false_and]
        rw [hdig, Bool.false_and] at hall
        generalize s[i] = c at *
        repeat' (first
    | (with_reducible apply W_seq_k; intro nx hnx)
    | (with_reducible first | apply W_block | apply W_scope)
    | (with_reducible refine W_prune 243 ?_; simp only [prb, Nat.reducePow, Nat.reduceDiv, Nat.reduceMod, Nat.reduceBEq]; with_reducible apply W_region_l)
    | ((first | (with_reducible apply WL_op; intro nx hnx) | with_reducible refine Ev_out ?_ | (with_reducible refine pfresh_k hnm fun nm hnm => ?_; (try simp only [fmb] at hnm)) | (with_reducible refine pborn_mu hnm fun nm hnm => ?_; (try simp only [fmb] at hnm))); try (simp (maxSteps := 2000000) (disch := omega) only [evb, evd, pbuiltin, constPV, pnck, seqK, blockK, scopeK, pbin, pun, ppick, plen, piaddr, pindex, pfield, pslice, pbound, pconv, pelems, pextract, pmm, PV.mem?, PV.one, PV.cells, pageq, peqs, peq1, pmakes, pstore, pbytes, pmark, pusd, pust, psrc, pkey, pnile, pcap, pgrow, List.set, Value.cells, ↓popG_eq, ↓pop.eq_1, ↓List.getElem?_map, ↓List.getElem?_cons_zero, ↓List.getElem?_cons_succ, Value.oneCell', Nat.reduceAdd, Nat.reduceMul, Nat.reduceSub, Nat.reduceLeDiff, Nat.reduceEqDiff, ↓reduceIte, ne_eq, reduceCtorEq, forall_const, exists_and_left, exists_eq_left', eq_self, Nat.reduceLT, Int.reduceLT, Int.reduceLE, Int.reduceToNat, Int.reduceAdd, Int.reduceSub, Int.reduceNeg, hnm, Tryd.tf3, Tryd.tf4, Tryd.tf5, Tryd.tf9, Tryd.teq45, Tryd.teq94, Tryd.teq104, Tryd.teq113, Tryd.teq114, hget]); repeat (refine And.intro (by omega) ?_))
    | ((with_reducible first | apply WL_nil | apply W_label | apply W_skip | apply W_exit | apply W_ret); try simp only [seqK, blockK, scopeK, ↓reduceIte, Nat.reduceEqDiff])
    | (with_reducible apply pguard_intro <;> (intro hc; (try simp only [hcb, reduceCtorEq, forall_const, ne_eq] at hc); first | (exfalso; omega) | (exfalso; exact hc trivial) | refine Ev_in ?_))
    | (with_reducible apply W_cond_k; intro _ _ ea eb; (simp only [condK, cob, opnd, constPV, Nat.reduceEqDiff, Nat.reduceLT, ↓reduceIte, hcb, reduceCtorEq, forall_const, ne_eq]); subst ea eb; first | (refine ⟨fun hc => ?_, fun hc => ?_⟩ <;> first | (exfalso; omega) | (exfalso; exact hc trivial) | skip) | skip)
    | (with_reducible apply hnx; clear hnx nx)
    | (with_reducible refine And.intro (by omega) ?_)
    | (with_reducible refine And.intro ?_ ?_)
    | (clear hnx nx; with_reducible apply hnx; clear hnx nx)
    | (clear hnx nx; clear hnx nx; with_reducible apply hnx; clear hnx nx)
    | (clear hnx nx; clear hnx nx; clear hnx nx; with_reducible apply hnx; clear hnx nx))
        all_goals first | exact absurd trivial hc | contradiction | exact fun h => False.elim h | (exfalso; omega) | (exfalso; have hc := of_decide_eq_false hc; omega) | (exfalso; simp only [Bool.not_false, Bool.not_true, decide_eq_true_eq, decide_eq_false_iff_not] at *; omega) | skip
        all_goals
          refine hfin _ _ (Fin_ret2 rfl rfl (Sub_nil _) ?_); simp only [List.getD_cons_zero, List.getD_cons_succ, fr_getD_cons, fr_getD_nil, Nat.reduceEqDiff, Nat.reduceLT, ↓reduceIte]
          exact ⟨by simp [numF, hz2, hall], by trivial⟩
    · have hi2 : i = s.length := by omega
      subst hi2
      rw [List.drop_length] at hall
      rw [List.take_length]
      repeat' (first
    | (with_reducible apply W_seq_k; intro nx hnx)
    | (with_reducible first | apply W_block | apply W_scope)
    | (with_reducible refine W_prune 243 ?_; simp only [prb, Nat.reducePow, Nat.reduceDiv, Nat.reduceMod, Nat.reduceBEq]; with_reducible apply W_region_l)
    | ((first | (with_reducible apply WL_op; intro nx hnx) | with_reducible refine Ev_out ?_ | (with_reducible refine pfresh_k hnm fun nm hnm => ?_; (try simp only [fmb] at hnm)) | (with_reducible refine pborn_mu hnm fun nm hnm => ?_; (try simp only [fmb] at hnm))); try (simp (maxSteps := 2000000) (disch := omega) only [evb, evd, pbuiltin, constPV, pnck, seqK, blockK, scopeK, pbin, pun, ppick, plen, piaddr, pindex, pfield, pslice, pbound, pconv, pelems, pextract, pmm, PV.mem?, PV.one, PV.cells, pageq, peqs, peq1, pmakes, pstore, pbytes, pmark, pusd, pust, psrc, pkey, pnile, pcap, pgrow, List.set, Value.cells, ↓popG_eq, ↓pop.eq_1, ↓List.getElem?_map, ↓List.getElem?_cons_zero, ↓List.getElem?_cons_succ, Value.oneCell', Nat.reduceAdd, Nat.reduceMul, Nat.reduceSub, Nat.reduceLeDiff, Nat.reduceEqDiff, ↓reduceIte, ne_eq, reduceCtorEq, forall_const, exists_and_left, exists_eq_left', eq_self, Nat.reduceLT, Int.reduceLT, Int.reduceLE, Int.reduceToNat, Int.reduceAdd, Int.reduceSub, Int.reduceNeg, hnm, Tryd.tf3, Tryd.tf4, Tryd.tf5, Tryd.tf9, Tryd.teq45, Tryd.teq94, Tryd.teq104, Tryd.teq113, Tryd.teq114]); repeat (refine And.intro (by omega) ?_))
    | ((with_reducible first | apply WL_nil | apply W_label | apply W_skip | apply W_exit | apply W_ret); try simp only [seqK, blockK, scopeK, ↓reduceIte, Nat.reduceEqDiff])
    | (with_reducible apply pguard_intro <;> (intro hc; (try simp only [hcb, reduceCtorEq, forall_const, ne_eq] at hc); first | (exfalso; omega) | (exfalso; exact hc trivial) | refine Ev_in ?_))
    | (with_reducible apply W_cond_k; intro _ _ ea eb; (simp only [condK, cob, opnd, constPV, Nat.reduceEqDiff, Nat.reduceLT, ↓reduceIte, hcb, reduceCtorEq, forall_const, ne_eq]); subst ea eb; first | (refine ⟨fun hc => ?_, fun hc => ?_⟩ <;> first | (exfalso; omega) | (exfalso; exact hc trivial) | skip) | skip)
    | (with_reducible apply hnx; clear hnx nx)
    | (with_reducible refine And.intro (by omega) ?_)
    | (with_reducible refine And.intro ?_ ?_)
    | (clear hnx nx; with_reducible apply hnx; clear hnx nx)
    | (clear hnx nx; clear hnx nx; with_reducible apply hnx; clear hnx nx)
    | (clear hnx nx; clear hnx nx; clear hnx nx; with_reducible apply hnx; clear hnx nx))
      all_goals first | exact absurd trivial hc | contradiction | exact fun h => False.elim h | (exfalso; omega) | (exfalso; have hc := of_decide_eq_false hc; omega) | (exfalso; simp only [Bool.not_false, Bool.not_true, decide_eq_true_eq, decide_eq_false_iff_not] at *; omega) | skip
      all_goals
        refine hfin _ _ (Fin_ret2 rfl rfl (Sub_nil _) ?_); simp only [List.getD_cons_zero, List.getD_cons_succ, fr_getD_cons, fr_getD_nil, Nat.reduceEqDiff, Nat.reduceLT, ↓reduceIte]
        exact ⟨by simp [numF, hz2, hall], by trivial⟩
end Go.PM

namespace Go.PM
open Go.Proofs
attribute [local irreducible] W PCalls pcall pcallI WL
set_option maxRecDepth 100000
set_option maxHeartbeats 8000000
theorem res_ltr {σ : PState} {x : Tmp} {n : Int} {g : Bool} {es : Nat} {l : Ltr} (hx : σ.frame.getD x .junk = .ptr n 0) (hl : look σ.heap n = some ⟨45, g, es, cellL l⟩) : PRes Tryd.prog σ (.cell x 45) (ltP l) := by
  simp only [PRes, Tryd.tf45, hx, hl]
  exact ⟨Nat.le_refl _, rfl⟩
theorem Fin_ltr3 {x y z : Tmp} {R : PV → Heap → Prop} {σ : PState} {n : Int} {g : Bool} {es : Nat} {l : Ltr} {p q : PV} (hx : σ.frame.getD x .junk = .ptr n 0) (hl : look σ.heap n = some ⟨45, g, es, cellL l⟩)
    (hy : σ.frame.getD y .junk = p) (hz : σ.frame.getD z .junk = q) (h : R (.tuple [ltP l, p, q]) []) : Fin Tryd.prog [.cell x 45, .tmp y, .tmp z] R .ret σ :=
  Fin_ret (show PResult Tryd.prog σ [.cell x 45, .tmp y, .tmp z] (.tuple [ltP l, p, q]) from ⟨[ltP l, p, q], ⟨res_ltr hx hl, hy.symm, hz.symm, trivial⟩, rfl⟩) (Sub_nil _) h
/-- What line hands back. -/
@[reducible] def lineR (t : List UInt8) (p : PV) : Prop := (lineF t = none ∧ ∃ x b, p = .tuple [ltP x, pstr b, pbool false]) ∨ (∃ x b, lineF t = some (x, b) ∧ p = .tuple [ltP x, pstr b, pbool true])
theorem rline_c (G : Globs) (t : List UInt8) (ht : t.length ≤ 100000000) : PCalls Tryd.prog G 44 [pstr t] [] (fun res H => lineR t res ∧ H = []) := by
  have cs := rcut_c G t 32 ht
  have cs : PCalls Tryd.prog G 43 [pstr t, .val (.int .u8 32)] [] _ := cs
  have hle := splitF_mem 32 t
  by_cases h5 : (splitF 32 t).length = 5
  · obtain ⟨x, b, m, k, w, hsp⟩ := five h5
    have hln := lineF_five hsp
    rw [hsp] at cs hle
    have n1 := rdigits_c G m (by have := hle m (by simp); omega)
    have n2 := rdigits_c G k (by have := hle k (by simp); omega)
    have n3 := rdigits_c G w (by have := hle w (by simp); omega)
    simp only [List.map_cons, List.map_nil] at cs
    (refine PCalls_f Tryd.func44 rfl Tryd.ntmps44 Tryd.results44 (by simp) fun fin hfin => ?_; have hnm : True := trivial; simp (maxSteps := 2000000) (disch := omega) only [evb, evd, pbuiltin, constPV, pnck, seqK, blockK, scopeK, pbin, pun, ppick, plen, piaddr, pindex, pfield, pslice, pbound, pconv, pelems, pextract, pmm, PV.mem?, PV.one, PV.cells, pageq, peqs, peq1, pmakes, pstore, pbytes, pmark, pusd, pust, psrc, pkey, pnile, pcap, pgrow, List.set, Value.cells, ↓popG_eq, ↓pop.eq_1, ↓List.getElem?_map, ↓List.getElem?_cons_zero, ↓List.getElem?_cons_succ, Value.oneCell', Nat.reduceAdd, Nat.reduceMul, Nat.reduceSub, Nat.reduceLeDiff, Nat.reduceEqDiff, ↓reduceIte, ne_eq, reduceCtorEq, forall_const, exists_and_left, exists_eq_left', eq_self, Nat.reduceLT, Int.reduceLT, Int.reduceLE, Int.reduceToNat, Int.reduceAdd, Int.reduceSub, Int.reduceNeg, hnm, Tryd.tf0, Tryd.tf1, Tryd.tf3, Tryd.tf4, Tryd.tf5, Tryd.tf9, Tryd.tf26, Tryd.tf45, Tryd.teq45, Tryd.tf56, Tryd.teq94, Tryd.teq104, Tryd.teq113, Tryd.teq114, Tryd.call43, Tryd.call55])
    repeat' (first
    | (with_reducible apply W_seq_k; intro nx hnx)
    | (with_reducible first | apply W_block | apply W_scope)
    | (with_reducible refine W_prune 4093 ?_; simp only [prb, Nat.reducePow, Nat.reduceDiv, Nat.reduceMod, Nat.reduceBEq]; first | (with_reducible apply W_region_l) | with_reducible refine W_region_draw (id := 7) 2 (.op 0 true (.op 1 true (.op 2 true (.op 3 true (.op 4 true (.op 5 true (.op 6 true (.op 7 true (.op 10 true (.op 11 true (.op 12 true (.op 13 true (.op 14 true (.op 15 true (.alt 8 true (.alt 9 true (.alt 16 true (.op 17 false (.op 18 true (.op 19 true (.done)))) (.alt 17 false (.op 18 true (.alt 16 true (.op 19 true (.done)) .stop)) .stop)) (.alt 16 true (.alt 9 true (.op 17 false (.op 18 true (.op 19 true (.done)))) (.alt 17 false (.alt 9 true (.op 18 true (.op 19 true (.done))) .stop) .stop)) (.alt 17 false (.alt 9 true (.op 18 true (.alt 16 true (.op 19 true (.done)) .stop)) (.alt 16 true (.alt 9 true (.op 18 true (.op 19 true (.done))) .stop) .stop)) .stop))) (.alt 16 true (.alt 8 true (.alt 9 true (.op 17 false (.op 18 true (.op 19 true (.done)))) (.alt 17 false (.alt 9 true (.op 18 true (.op 19 true (.done))) .stop) .stop)) (.alt 17 false (.alt 8 true (.alt 9 true (.op 18 true (.op 19 true (.done))) .stop) .stop) .stop)) (.alt 17 false (.alt 8 true (.alt 9 true (.op 18 true (.alt 16 true (.op 19 true (.done)) .stop)) (.alt 16 true (.alt 9 true (.op 18 true (.op 19 true (.done))) .stop) .stop)) (.alt 16 true (.alt 8 true (.alt 9 true (.op 18 true (.op 19 true (.done))) .stop) .stop) .stop)) .stop))))))))))))))))) (by kernel_rfl) ?_)
    | ((first | (with_reducible apply WL_op; intro nx hnx) | with_reducible refine Ev_out ?_ | (with_reducible apply popsD_op; intro nx hnx) | (with_reducible refine popsD_alt ?_ ?_; intro nx hnx) | (with_reducible refine pfresh_k hnm fun nm hnm => ?_; (try simp only [fmb] at hnm)) | (with_reducible refine pborn_mu hnm fun nm hnm => ?_; (try simp only [fmb] at hnm))); try (simp (maxSteps := 2000000) (disch := omega) only [evb, evd, pbuiltin, constPV, pnck, seqK, blockK, scopeK, pbin, pun, ppick, plen, piaddr, pindex, pfield, pslice, pbound, pconv, pelems, pextract, pmm, PV.mem?, PV.one, PV.cells, pageq, peqs, peq1, pmakes, pstore, pbytes, pmark, pusd, pust, psrc, pkey, pnile, pcap, pgrow, List.set, Value.cells, ↓popG_eq, ↓pop.eq_1, ↓List.getElem?_map, ↓List.getElem?_cons_zero, ↓List.getElem?_cons_succ, Value.oneCell', Nat.reduceAdd, Nat.reduceMul, Nat.reduceSub, Nat.reduceLeDiff, Nat.reduceEqDiff, ↓reduceIte, ne_eq, reduceCtorEq, forall_const, exists_and_left, exists_eq_left', eq_self, Nat.reduceLT, Int.reduceLT, Int.reduceLE, Int.reduceToNat, Int.reduceAdd, Int.reduceSub, Int.reduceNeg, hnm, Tryd.tf0, Tryd.tf1, Tryd.tf3, Tryd.tf4, Tryd.tf5, Tryd.tf9, Tryd.tf26, Tryd.tf45, Tryd.teq45, Tryd.tf56, Tryd.teq94, Tryd.teq104, Tryd.teq113, Tryd.teq114, Tryd.call43, Tryd.call55, List.length_map]); repeat (refine And.intro (by omega) ?_))
    | ((with_reducible first | apply WL_nil | apply W_label | apply W_skip | apply W_exit | apply W_ret | apply popsD_done); try simp only [seqK, blockK, scopeK, ↓reduceIte, Nat.reduceEqDiff])
    | with_reducible exact popsD_stop
    | (with_reducible apply pguard_intro <;> (intro hc; (try simp only [hcb, reduceCtorEq, forall_const, ne_eq] at hc); first | (exfalso; omega) | (exfalso; exact hc trivial) | refine Ev_in ?_))
    | (with_reducible apply W_cond_k; intro _ _ ea eb; (simp only [condK, cob, opnd, constPV, Nat.reduceEqDiff, Nat.reduceLT, ↓reduceIte, hcb, reduceCtorEq, forall_const, ne_eq]); subst ea eb; first | (refine ⟨fun hc => ?_, fun hc => ?_⟩ <;> first | (exfalso; omega) | (exfalso; exact hc trivial) | skip) | skip)
    | (with_reducible apply hnx; clear hnx nx)
    | (with_reducible refine And.intro (by omega) ?_)
    | (with_reducible refine And.intro ?_ ?_)
    | (with_reducible refine pcall_k (cs) ?_; rintro _ _ ⟨rfl, rfl⟩ -; refine Ev_in ?_)
    | (with_reducible refine pcall_k (n1) ?_; rintro _ _ ⟨rfl, rfl⟩ -; refine Ev_in ?_)
    | (with_reducible refine pcall_k (n2) ?_; rintro _ _ ⟨rfl, rfl⟩ -; refine Ev_in ?_)
    | (with_reducible refine pcall_k (n3) ?_; rintro _ _ ⟨rfl, rfl⟩ -; refine Ev_in ?_)
    | (clear hnx nx; with_reducible apply hnx; clear hnx nx)
    | (clear hnx nx; clear hnx nx; with_reducible apply hnx; clear hnx nx)
    | (clear hnx nx; clear hnx nx; clear hnx nx; with_reducible apply hnx; clear hnx nx))
    all_goals first | exact absurd trivial hc | contradiction | exact fun h => False.elim h | (exfalso; omega) | (exfalso; have hc := of_decide_eq_false hc; omega) | (exfalso; simp only [Bool.not_false, Bool.not_true, decide_eq_true_eq, decide_eq_false_iff_not] at *; omega) | skip
    all_goals first
      | (refine hfin _ _ (Fin_ltr3 (l := ⟨[], 0, 0, 0, 0⟩) (by (try simp only [fr_getD_cons, Nat.reduceEqDiff, Nat.reduceLT, ↓reduceIte]); first | done | rfl) (by (try simp only [look, hnm, ↓reduceIte]); first | done | rfl) rfl rfl ?_)
         simp only [fr_getD_cons, Nat.reduceEqDiff, Nat.reduceLT, ↓reduceIte]
         exact ⟨.inl ⟨by rw [hln]; simp_all, ⟨[], 0, 0, 0, 0⟩, [], rfl⟩, by trivial⟩)
      | (refine hfin _ _ (Fin_ltr3 (l := ⟨x, 0, (numF m).1, (numF k).1, (numF w).1⟩) (by (try simp only [fr_getD_cons, Nat.reduceEqDiff, Nat.reduceLT, ↓reduceIte]); first | done | rfl) (by (try simp only [look, hnm, ↓reduceIte]); first | done | rfl) rfl rfl ?_)
         simp only [fr_getD_cons, Nat.reduceEqDiff, Nat.reduceLT, ↓reduceIte]
         refine ⟨?_, by trivial⟩
         first
           | exact .inl ⟨by rw [hln]; simp_all, _, _, rfl⟩
           | (cases hbw : (numF w).2 with
              | false => exact .inl ⟨by rw [hln]; simp_all, _, _, rfl⟩
              | true => exact .inr ⟨_, _, by rw [hln]; simp_all, rfl⟩))
  · have hln := lineF_not h5
    (refine PCalls_f Tryd.func44 rfl Tryd.ntmps44 Tryd.results44 (by simp) fun fin hfin => ?_; have hnm : True := trivial; simp (maxSteps := 2000000) (disch := omega) only [evb, evd, pbuiltin, constPV, pnck, seqK, blockK, scopeK, pbin, pun, ppick, plen, piaddr, pindex, pfield, pslice, pbound, pconv, pelems, pextract, pmm, PV.mem?, PV.one, PV.cells, pageq, peqs, peq1, pmakes, pstore, pbytes, pmark, pusd, pust, psrc, pkey, pnile, pcap, pgrow, List.set, Value.cells, ↓popG_eq, ↓pop.eq_1, ↓List.getElem?_map, ↓List.getElem?_cons_zero, ↓List.getElem?_cons_succ, Value.oneCell', Nat.reduceAdd, Nat.reduceMul, Nat.reduceSub, Nat.reduceLeDiff, Nat.reduceEqDiff, ↓reduceIte, ne_eq, reduceCtorEq, forall_const, exists_and_left, exists_eq_left', eq_self, Nat.reduceLT, Int.reduceLT, Int.reduceLE, Int.reduceToNat, Int.reduceAdd, Int.reduceSub, Int.reduceNeg, hnm, Tryd.tf0, Tryd.tf1, Tryd.tf3, Tryd.tf4, Tryd.tf5, Tryd.tf9, Tryd.tf26, Tryd.tf45, Tryd.teq45, Tryd.tf56, Tryd.teq94, Tryd.teq104, Tryd.teq113, Tryd.teq114, Tryd.call43, Tryd.call55])
    repeat' (first
    | (with_reducible apply W_seq_k; intro nx hnx)
    | (with_reducible first | apply W_block | apply W_scope)
    | (with_reducible refine W_prune 4093 ?_; simp only [prb, Nat.reducePow, Nat.reduceDiv, Nat.reduceMod, Nat.reduceBEq]; first | (with_reducible apply W_region_l) | with_reducible refine W_region_draw (id := 7) 2 (.op 0 true (.op 1 true (.op 2 true (.op 3 true (.op 4 true (.op 5 true (.op 6 true (.op 7 true (.op 10 true (.op 11 true (.op 12 true (.op 13 true (.op 14 true (.op 15 true (.alt 8 true (.alt 9 true (.alt 16 true (.op 17 false (.op 18 true (.op 19 true (.done)))) (.alt 17 false (.op 18 true (.alt 16 true (.op 19 true (.done)) .stop)) .stop)) (.alt 16 true (.alt 9 true (.op 17 false (.op 18 true (.op 19 true (.done)))) (.alt 17 false (.alt 9 true (.op 18 true (.op 19 true (.done))) .stop) .stop)) (.alt 17 false (.alt 9 true (.op 18 true (.alt 16 true (.op 19 true (.done)) .stop)) (.alt 16 true (.alt 9 true (.op 18 true (.op 19 true (.done))) .stop) .stop)) .stop))) (.alt 16 true (.alt 8 true (.alt 9 true (.op 17 false (.op 18 true (.op 19 true (.done)))) (.alt 17 false (.alt 9 true (.op 18 true (.op 19 true (.done))) .stop) .stop)) (.alt 17 false (.alt 8 true (.alt 9 true (.op 18 true (.op 19 true (.done))) .stop) .stop) .stop)) (.alt 17 false (.alt 8 true (.alt 9 true (.op 18 true (.alt 16 true (.op 19 true (.done)) .stop)) (.alt 16 true (.alt 9 true (.op 18 true (.op 19 true (.done))) .stop) .stop)) (.alt 16 true (.alt 8 true (.alt 9 true (.op 18 true (.op 19 true (.done))) .stop) .stop) .stop)) .stop))))))))))))))))) (by kernel_rfl) ?_)
    | ((first | (with_reducible apply WL_op; intro nx hnx) | with_reducible refine Ev_out ?_ | (with_reducible apply popsD_op; intro nx hnx) | (with_reducible refine popsD_alt ?_ ?_; intro nx hnx) | (with_reducible refine pfresh_k hnm fun nm hnm => ?_; (try simp only [fmb] at hnm)) | (with_reducible refine pborn_mu hnm fun nm hnm => ?_; (try simp only [fmb] at hnm))); try (simp (maxSteps := 2000000) (disch := omega) only [evb, evd, pbuiltin, constPV, pnck, seqK, blockK, scopeK, pbin, pun, ppick, plen, piaddr, pindex, pfield, pslice, pbound, pconv, pelems, pextract, pmm, PV.mem?, PV.one, PV.cells, pageq, peqs, peq1, pmakes, pstore, pbytes, pmark, pusd, pust, psrc, pkey, pnile, pcap, pgrow, List.set, Value.cells, ↓popG_eq, ↓pop.eq_1, ↓List.getElem?_map, ↓List.getElem?_cons_zero, ↓List.getElem?_cons_succ, Value.oneCell', Nat.reduceAdd, Nat.reduceMul, Nat.reduceSub, Nat.reduceLeDiff, Nat.reduceEqDiff, ↓reduceIte, ne_eq, reduceCtorEq, forall_const, exists_and_left, exists_eq_left', eq_self, Nat.reduceLT, Int.reduceLT, Int.reduceLE, Int.reduceToNat, Int.reduceAdd, Int.reduceSub, Int.reduceNeg, hnm, Tryd.tf0, Tryd.tf1, Tryd.tf3, Tryd.tf4, Tryd.tf5, Tryd.tf9, Tryd.tf26, Tryd.tf45, Tryd.teq45, Tryd.tf56, Tryd.teq94, Tryd.teq104, Tryd.teq113, Tryd.teq114, Tryd.call43, Tryd.call55, List.length_map]); repeat (refine And.intro (by omega) ?_))
    | ((with_reducible first | apply WL_nil | apply W_label | apply W_skip | apply W_exit | apply W_ret | apply popsD_done); try simp only [seqK, blockK, scopeK, ↓reduceIte, Nat.reduceEqDiff])
    | with_reducible exact popsD_stop
    | (with_reducible apply pguard_intro <;> (intro hc; (try simp only [hcb, reduceCtorEq, forall_const, ne_eq] at hc); first | (exfalso; omega) | (exfalso; exact hc trivial) | refine Ev_in ?_))
    | (with_reducible apply W_cond_k; intro _ _ ea eb; (simp only [condK, cob, opnd, constPV, Nat.reduceEqDiff, Nat.reduceLT, ↓reduceIte, hcb, reduceCtorEq, forall_const, ne_eq]); subst ea eb; first | (refine ⟨fun hc => ?_, fun hc => ?_⟩ <;> first | (exfalso; omega) | (exfalso; exact hc trivial) | skip) | skip)
    | (with_reducible apply hnx; clear hnx nx)
    | (with_reducible refine And.intro (by omega) ?_)
    | (with_reducible refine And.intro ?_ ?_)
    | (with_reducible refine pcall_k (cs) ?_; rintro _ _ ⟨rfl, rfl⟩ -; refine Ev_in ?_)
    | (clear hnx nx; with_reducible apply hnx; clear hnx nx)
    | (clear hnx nx; clear hnx nx; with_reducible apply hnx; clear hnx nx)
    | (clear hnx nx; clear hnx nx; clear hnx nx; with_reducible apply hnx; clear hnx nx))
    all_goals first | exact absurd trivial hc | contradiction | exact fun h => False.elim h | (exfalso; omega) | (exfalso; have hc := of_decide_eq_false hc; omega) | (exfalso; simp only [Bool.not_false, Bool.not_true, decide_eq_true_eq, decide_eq_false_iff_not] at *; omega) | skip
    all_goals
      refine hfin _ _ (Fin_ltr3 (l := ⟨[], 0, 0, 0, 0⟩) (by (try simp only [fr_getD_cons, Nat.reduceEqDiff, Nat.reduceLT, ↓reduceIte]); first | done | rfl) (by (try simp only [look, hnm, ↓reduceIte]); first | done | rfl) rfl rfl ?_)
      simp only [fr_getD_cons, Nat.reduceEqDiff, Nat.reduceLT, ↓reduceIte]
      exact ⟨.inl ⟨hln, ⟨[], 0, 0, 0, 0⟩, [], rfl⟩, by trivial⟩
end Go.PM
