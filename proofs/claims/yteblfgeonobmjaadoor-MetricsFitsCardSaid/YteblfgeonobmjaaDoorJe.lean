/- Joined texts (Ub Ql Qm Uc Ud Ue Uf Ug Uh Ui Uj): the machine, the contracts, the laws. Conditions: none but those that each names. -/
import Derived.Test.YteblfgeonobmjaaDoorJd
set_option linter.unusedSimpArgs false
set_option linter.unusedVariables false
namespace Go.PM
open Go.Proofs
/-- The width once the first j kerns are looked at. -/
def kst (ks : List Kern) (l r : List UInt8) (bw : Int) (j : Nat) : Int := match (ks.take j).find? fun k => decide (k.left = l ∧ k.right = r) with
  | some k => max 0 (bw - k.by_)
  | none => bw
theorem kst_miss {ks : List Kern} {l r : List UInt8} {bw : Int} {j : Nat} (h : j < ks.length) (hm : ¬ (ks[j].left = l ∧ ks[j].right = r)) : kst ks l r bw (j + 1) = kst ks l r bw j := by
  unfold kst
  rw [List.take_succ_eq_append_getElem h, List.find?_append]
  have : ([ks[j]].find? fun k => decide (k.left = l ∧ k.right = r)) = none := by
    rw [List.find?_eq_none]
    intro x hx
    simp only [List.mem_singleton] at hx
    subst hx
    simpa using hm
  rw [this, Option.or_none]
theorem kst_hit {ks : List Kern} {l r : List UInt8} {bw : Int} {j : Nat} (h : j < ks.length) (hnd : (pairs ks).Nodup) (hm : ks[j].left = l ∧ ks[j].right = r) : kst ks l r bw j = bw ∧ kst ks l r bw (j + 1) = max 0 (bw - ks[j].by_) := by
  have hn : ((ks.take j).find? fun k => decide (k.left = l ∧ k.right = r)) = none := by
    rw [List.find?_eq_none]
    intro x hx
    simp only [decide_eq_true_eq]
    rintro ⟨rfl, rfl⟩
    refine pairs_bad h ?_ hnd
    rw [hm.1, hm.2]
    exact List.mem_map.2 ⟨x, hx, rfl⟩
  unfold kst
  rw [List.take_succ_eq_append_getElem h, List.find?_append, hn]
  refine ⟨rfl, ?_⟩
  have : ([ks[j]].find? fun k => decide (k.left = l ∧ k.right = r)) = some ks[j] := by
    rw [List.find?_cons_of_pos]
    simpa using hm
  rw [this]
  rfl
theorem kst_end {ks : List Kern} {l r : List UInt8} {bw : Int} (h0 : 0 ≤ bw) : kst ks l r bw ks.length = max 0 (bw - kernF ks l r) := by
  unfold kst kernF
  rw [List.take_length]
  generalize (ks.find? fun k => decide (k.left = l ∧ k.right = r)) = o
  cases o with
  | none =>
    simp only
    omega
  | some k => rfl
theorem kst_low {ks : List Kern} {l r : List UInt8} {bw : Int} (h0 : 0 ≤ bw) (hk : ∀ k ∈ ks, 1 ≤ k.by_) (j : Nat) : 0 ≤ kst ks l r bw j ∧ kst ks l r bw j ≤ bw := by
  unfold kst
  split
  · rename_i k hk2
    have := hk k (List.mem_of_mem_take (List.mem_of_find?_eq_some hk2))
    omega
  · omega
attribute [local irreducible] W PCalls pcall pcallI WL
set_option maxRecDepth 100000
set_option maxHeartbeats 8000000
theorem rmeasure_r (G : Globs) (a : List Ltr) (f : Font) (s : List UInt8) (bold : Bool) (ha : HA a) (hax : ∀ x ∈ a, x.text.length ≤ 65536) (hw : ∀ x ∈ a, 0 ≤ x.width ∧ x.width ≤ 1000) (hf : HF f) (hok : okFont f = true) (hsl : (s.length : Int) ≤ 9223372036854775807) :
    PCalls Tryd.prog G 45 [ltsP a, foP f, pstr s, pbool bold] [] (mRes (measF a f s bold)) := by
  (refine PCalls_f Tryd.func45 rfl Tryd.ntmps45 Tryd.results45 (by simp) fun fin hfin => ?_; have hnm : True := trivial; simp (maxSteps := 2000000) (disch := omega) only [evb, evd, eve, constPV, seqK, blockK, scopeK, pbound, pelems, PV.mem?, PV.one, PV.cells, peqs, peq1, pkeys, pkeyt, List.set, Value.cells, ↓popG_eq, ↓pop.eq_1, ↓List.getElem?_map, ↓List.getElem?_cons_zero, ↓List.getElem?_cons_succ, Value.oneCell', Nat.reduceAdd, Nat.reduceMul, Nat.reduceSub, Nat.reduceLeDiff, Nat.reduceEqDiff, ↓reduceIte, ne_eq, reduceCtorEq, forall_const, exists_and_left, exists_eq_left', eq_self, Nat.reduceLT, Int.reduceLT, Int.reduceLE, Int.reduceToNat, Int.reduceAdd, Int.reduceSub, Int.reduceNeg, hnm, Tryd.tf0, Tryd.tf1, Tryd.tf2, Tryd.tf3, Tryd.tf4, Tryd.tf9, Tryd.tf22, Tryd.tf23, Tryd.tf25, Tryd.tf27, Tryd.tf37, Tryd.tf60, Tryd.tf68, Tryd.tf105, Tryd.call67])
  repeat' (first
    | (with_reducible apply W_seq_k; intro nx hnx)
    | (with_reducible first | apply W_block | apply W_scope)
    | (with_reducible refine W_prune 524079 ?_; simp only [prb, Nat.reducePow, Nat.reduceDiv, Nat.reduceMod, Nat.reduceBEq]; first | (with_reducible apply W_region_l) | with_reducible refine W_region_draw (id := 17) 1 (.op 0 true (.op 1 true (.op 2 true (.op 3 true (.op 4 true (.op 5 true (.op 6 true (.op 7 true (.op 8 true (.op 9 true (.op 10 true (.op 11 true (.op 12 true (.op 13 true (.op 14 true (.op 15 true (.op 16 true (.op 17 true (.op 18 true (.op 19 true (.op 20 true (.done)))))))))))))))))))))) (by kernel_rfl) ?_)
    | ((first | (with_reducible apply WL_op; intro nx hnx) | with_reducible refine Ev_out ?_ | (with_reducible apply popsD_op; intro nx hnx) | (with_reducible refine popsD_alt ?_ ?_; intro nx hnx) | (with_reducible refine pfresh_k hnm fun nm hnm => ?_; (try simp only [fmb] at hnm)) | (with_reducible refine pborn_mu hnm fun nm hnm => ?_; (try simp only [fmb] at hnm)) | (with_reducible refine pmaybe_k ?_; intro bn hbn)); try (simp (maxSteps := 2000000) (disch := omega) only [evb, evd, eve, constPV, seqK, blockK, scopeK, pbound, pelems, PV.mem?, PV.one, PV.cells, peqs, peq1, pkeys, pkeyt, List.set, Value.cells, ↓popG_eq, ↓pop.eq_1, ↓List.getElem?_map, ↓List.getElem?_cons_zero, ↓List.getElem?_cons_succ, Value.oneCell', Nat.reduceAdd, Nat.reduceMul, Nat.reduceSub, Nat.reduceLeDiff, Nat.reduceEqDiff, ↓reduceIte, ne_eq, reduceCtorEq, forall_const, exists_and_left, exists_eq_left', eq_self, Nat.reduceLT, Int.reduceLT, Int.reduceLE, Int.reduceToNat, Int.reduceAdd, Int.reduceSub, Int.reduceNeg, hnm, Tryd.tf0, Tryd.tf1, Tryd.tf2, Tryd.tf3, Tryd.tf4, Tryd.tf9, Tryd.tf22, Tryd.tf23, Tryd.tf25, Tryd.tf27, Tryd.tf37, Tryd.tf60, Tryd.tf68, Tryd.tf105, Tryd.call67]); repeat (refine And.intro (by omega) ?_))
    | ((with_reducible first | apply WL_nil | apply W_label | apply W_skip | apply W_exit | apply W_ret | apply popsD_done); try simp only [seqK, blockK, scopeK, ↓reduceIte, Nat.reduceEqDiff])
    | with_reducible exact popsD_stop
    | (with_reducible apply pguard_intro <;> (intro hc; (try simp only [hcb, reduceCtorEq, forall_const, ne_eq] at hc); first | (exfalso; omega) | (exfalso; exact hc trivial) | refine Ev_in ?_))
    | (with_reducible apply W_cond_k; intro _ _ ea eb; (simp only [condK, cob, opnd, constPV, Nat.reduceEqDiff, Nat.reduceLT, ↓reduceIte, hcb, reduceCtorEq, forall_const, ne_eq]); subst ea eb; first | (refine ⟨fun hc => ?_, fun hc => ?_⟩ <;> first | (exfalso; omega) | (exfalso; exact hc trivial) | skip) | skip)
    | (with_reducible apply hnx; clear hnx nx)
    | (with_reducible refine And.intro (by omega) ?_)
    | (with_reducible refine And.intro ?_ ?_)
    | (clear hnx nx; with_reducible apply hnx; clear hnx nx)
    | (clear hnx nx; clear hnx nx; with_reducible apply hnx; clear hnx nx))
  all_goals first | exact absurd trivial hc | contradiction | exact fun h => False.elim h | (exfalso; omega) | (exfalso; have hc := of_decide_eq_false hc; omega) | (exfalso; simp only [Bool.not_false, Bool.not_true, decide_eq_true_eq, decide_eq_false_iff_not] at *; omega) | skip
  · have : 65536 < s.length := by omega
    refine hfin _ _ (Fin_ret3 rfl rfl rfl (Sub_nil _) (.inl ?_))
    simp only [fr_getD_cons, fr_getD_nil, Nat.reduceEqDiff, Nat.reduceLT, ↓reduceIte]
    simp [measF, this]
  have hsl2 : s.length ≤ 65536 := by omega
  refine W_adopt_f 12 3 1 (by simp only [fr_getD_cons, fr_getD_nil, Nat.reduceEqDiff, Nat.reduceLT, ↓reduceIte]) fun w hw1 => ?_
  refine W_adopt_f 11 3 1 (by simp only [fr_getD_cons, fr_getD_nil, Nat.reduceEqDiff, Nat.reduceLT, ↓reduceIte]) fun n hn1 => ?_
  obtain ⟨fo, hfo⟩ : ∃ fo, fo = nm := ⟨_, rfl⟩
  rw [← hfo] at hw1 hn1 ⊢
  clear hfo
  simp only [names, List.map_cons, List.map_nil, dis_cons, dis_nil, and_true] at hw1 hn1
  obtain ⟨cs, hcs⟩ : ∃ cs, cs = charsF a f s := ⟨_, rfl⟩
  refine W_loop_k (fun z τ => ∃ (i : Nat) (n w : Int), i ≤ cs.length ∧ z = cs.length - i ∧ (∀ c ∈ cs.take i, c.2 ≠ 0) ∧ charsF a f (s.drop (foldM f bold cs i).1) = cs.drop i ∧ [n, w, fo].Nodup ∧
      τ = ⟨fr 98 [(15, pstr (foldM f bold cs i).2.2.1), (14, pn (foldM f bold cs i).1), (13, pint .i64 (foldM f bold cs i).2.1), (12, .row w 1 (foldM f bold cs i).2.2.2.length), (11, .row n 1 (foldM f bold cs i).2.2.2.length), (5, .ptr fo 0), (3, pbool bold), (2, pstr s), (0, ltsP a)],
        [(n, ⟨3, true, 1, (foldM f bold cs i).2.2.2.map fun x => pn x.1⟩), (w, ⟨3, true, 1, (foldM f bold cs i).2.2.2.map fun x => pint .i64 x.2⟩), (fo, foC f)]⟩) cs.length
    ⟨fr 98 [(15, .val (.string ⟨#[]⟩)), (14, pn 0), (13, pint .i64 0), (12, .row w 1 0), (11, .row n 1 0), (5, .ptr fo 0), (3, pbool bold), (2, pstr s), (0, ltsP a)],
        [(n, ⟨3, true, 1, []⟩), (w, ⟨3, true, 1, []⟩), (fo, foC f)]⟩ (by
    refine Wk_fr (by simp only [wkb, Nat.reduceEqDiff, Nat.reduceLT, ↓reduceIte, pn]) ?_
    exact ⟨by simp, by simp [names, hw1, hn1]⟩) ⟨0, n, w, by omega, by omega, by simp, by rw [hcs]; rfl, by simp [hw1, hn1], rfl⟩ ?_
  clear hw1 hn1 n w
  rintro z τ ⟨i, n, w, hi, rfl, hnz, hch, hnn, rfl⟩ lp hlp
  have hnm := hnn
  simp only [List.nodup_cons, dis_cons, dis_nil, List.nodup_nil, and_true] at hnm
  by_cases hil : i < cs.length
  · have b1 := foldM_sum (f := f) (bold := bold) (cs := cs) (by rw [hcs]; exact chars_low bold hok hw s) (kernF_nn hok) i (by omega)
    have b2 : (foldM f bold cs i).1 + cs[i].1.length ≤ s.length := by
      subst hcs
      exact foldM_fits hil
    have b3 := foldM_len (f := f) (bold := bold) (cs := cs) i (by omega)
    have hlen : cs.length ≤ 65536 := by rw [hcs]; exact Nat.le_trans (charsF_len a f s) hsl2
    have b4 := charsN_wid hok hw s.length s cs[i] (by
      have : cs[i] ∈ charsF a f s := by rw [← hcs]; exact List.getElem_mem hil
      exact this)
    have hst := foldM_step (f := f) (bold := bold) (cs := cs) hil
    generalize foldM f bold cs i = st at *
    obtain ⟨p, sum, last, l⟩ := st
    simp only at *
    have hr0 : s.drop p ≠ [] := fun h => by
      rw [h, charsF_nil] at hch
      have := congrArg List.length hch
      rw [List.length_nil, List.length_drop] at this
      omega
    have hp : p < s.length := by
      have h1 : 0 < (s.drop p).length := List.length_pos_iff.2 hr0
      rw [List.length_drop] at h1
      omega
    have c1 := rnext_c G a f s p hp hsl2 ha.1 hax
    have hcl := charF_len (a := a) (f := f) hr0
    rw [List.length_drop] at hcl
    rw [charsF_cons a f _ hr0, List.drop_eq_getElem_cons hil] at hch
    injection hch with hci hch2
    generalize charF a f (s.drop p) = kw at *
    obtain ⟨k, wd⟩ := kw
    simp only at *
    obtain ⟨c, hcd⟩ : ∃ c, c = (s.drop p).take k := ⟨_, rfl⟩
    rw [← hcd] at hci
    have hclen : c.length = k := by rw [hcd, List.length_take, List.length_drop]; omega
    have hcut : List.drop p (List.take (p + k) s) = c := by
      rw [hcd, List.drop_take]
      congr 1
      omega
    have hci : cs[i] = (c, wd) := hci.symm
    rw [hci] at b4 hst
    simp only at b4
    obtain ⟨_, _, _, hb4, _, hb6, hpn⟩ := (okFont_iff f).1 hok
    have hkc : ∀ k ∈ f.kerns, k.by_ ≤ 1000 := fun k hk => ((okKern_iff k).1 (List.all_eq_true.1 hb6 k hk)).2.2.2
    have hkb : ∀ k ∈ f.kerns, 1 ≤ k.by_ := fun k hk => ((okKern_iff k).1 (List.all_eq_true.1 hb6 k hk)).2.2.1
    have hkl := hf.2.1
    have m1 : 0 ≤ wd * f.bold := Int.mul_nonneg b4.1 (by omega)
    have m2 : wd * f.bold ≤ 1000 * 400 := Int.mul_le_mul b4.2 hb4.2 (by omega) (by omega)
    have m3 : 0 ≤ (wd * f.bold + 50).tdiv 100 ∧ (wd * f.bold + 50).tdiv 100 ≤ 4001 := by
      rw [Int.tdiv_eq_ediv_of_nonneg (by omega)]
      omega
    cases bold with
    | true =>
        simp only [stepM, boldF, if_true, hclen] at hst
        generalize hbw : (wd * f.bold + 50).tdiv 100 = bw at *
        repeat' (first
    | (with_reducible apply W_seq_k; intro nx hnx)
    | (with_reducible first | apply W_block | apply W_scope)
    | (with_reducible refine W_prune 524079 ?_; simp only [prb, Nat.reducePow, Nat.reduceDiv, Nat.reduceMod, Nat.reduceBEq]; first | (with_reducible apply W_region_l) | with_reducible refine W_region_draw (id := 17) 1 (.op 0 true (.op 1 true (.op 2 true (.op 3 true (.op 4 true (.op 5 true (.op 6 true (.op 7 true (.op 8 true (.op 9 true (.op 10 true (.op 11 true (.op 12 true (.op 13 true (.op 14 true (.op 15 true (.op 16 true (.op 17 true (.op 18 true (.op 19 true (.op 20 true (.done)))))))))))))))))))))) (by kernel_rfl) ?_)
    | ((first | (with_reducible apply WL_op; intro nx hnx) | with_reducible refine Ev_out ?_ | (with_reducible apply popsD_op; intro nx hnx) | (with_reducible refine popsD_alt ?_ ?_; intro nx hnx) | (with_reducible refine pfresh_k hnm fun nm hnm => ?_; (try simp only [fmb] at hnm)) | (with_reducible refine pborn_mu hnm fun nm hnm => ?_; (try simp only [fmb] at hnm)) | (with_reducible refine pmaybe_k ?_; intro bn hbn)); try (simp (maxSteps := 2000000) (disch := omega) only [evb, evd, eve, constPV, seqK, blockK, scopeK, pbound, pelems, PV.mem?, PV.one, PV.cells, peqs, peq1, pkeys, pkeyt, List.set, Value.cells, ↓popG_eq, ↓pop.eq_1, ↓List.getElem?_map, ↓List.getElem?_cons_zero, ↓List.getElem?_cons_succ, Value.oneCell', Nat.reduceAdd, Nat.reduceMul, Nat.reduceSub, Nat.reduceLeDiff, Nat.reduceEqDiff, ↓reduceIte, ne_eq, reduceCtorEq, forall_const, exists_and_left, exists_eq_left', eq_self, Nat.reduceLT, Int.reduceLT, Int.reduceLE, Int.reduceToNat, Int.reduceAdd, Int.reduceSub, Int.reduceNeg, hnm, Tryd.tf0, Tryd.tf1, Tryd.tf2, Tryd.tf3, Tryd.tf4, Tryd.tf9, Tryd.tf22, Tryd.tf23, Tryd.tf25, Tryd.tf27, Tryd.tf37, Tryd.tf60, Tryd.tf68, Tryd.tf105, Tryd.call67, hbw]); repeat (refine And.intro (by omega) ?_))
    | ((with_reducible first | apply WL_nil | apply W_label | apply W_skip | apply W_exit | apply W_ret | apply popsD_done); try simp only [seqK, blockK, scopeK, ↓reduceIte, Nat.reduceEqDiff])
    | with_reducible exact popsD_stop
    | (with_reducible apply pguard_intro <;> (intro hc; (try simp only [hcb, reduceCtorEq, forall_const, ne_eq] at hc); first | (exfalso; omega) | (exfalso; exact hc trivial) | refine Ev_in ?_))
    | (with_reducible apply W_cond_k; intro _ _ ea eb; (simp only [condK, cob, opnd, constPV, Nat.reduceEqDiff, Nat.reduceLT, ↓reduceIte, hcb, reduceCtorEq, forall_const, ne_eq]); subst ea eb; first | (refine ⟨fun hc => ?_, fun hc => ?_⟩ <;> first | (exfalso; omega) | (exfalso; exact hc trivial) | skip) | skip)
    | (with_reducible apply hnx; clear hnx nx)
    | (with_reducible refine And.intro (by omega) ?_)
    | (with_reducible refine And.intro ?_ ?_)
    | (with_reducible refine pcall_k (c1) ?_; rintro _ _ ⟨rfl, rfl⟩ -; refine Ev_in ?_)
    | (clear hnx nx; with_reducible apply hnx; clear hnx nx)
    | (clear hnx nx; clear hnx nx; with_reducible apply hnx; clear hnx nx))
        all_goals first | exact absurd trivial hc | contradiction | exact fun h => False.elim h | (exfalso; omega) | (exfalso; have hc := of_decide_eq_false hc; omega) | (exfalso; simp only [Bool.not_false, Bool.not_true, decide_eq_true_eq, decide_eq_false_iff_not] at *; omega) | skip
        · have hz : ∃ c ∈ charsF a f s, c.2 = 0 := ⟨cs[i], by rw [← hcs]; exact List.getElem_mem hil, by rw [hci]; exact hc⟩
          rw [measF_bad hsl2 hz] at hfin
          refine hfin _ _ (Fin_ret3 rfl rfl rfl (Sub_nil _) (.inl ?_))
          simp only [fr_getD_cons, fr_getD_nil, Nat.reduceEqDiff, Nat.reduceLT, ↓reduceIte]
          simp
        · have hwd0 : wd ≠ 0 := by assumption
          refine W_loop_k (fun z τ => ∃ j : Nat, j ≤ f.kerns.length ∧ z = f.kerns.length - j ∧ τ = ⟨fr 98 [(18, pn j), (17, pint .i64 (kst f.kerns last c bw j)), (16, pn (p + k)), (15, pstr last), (14, pn p), (13, pint .i64 sum), (12, .row w 1 l.length), (11, .row n 1 l.length), (5, .ptr fo 0), (3, pbool true), (2, pstr s), (0, ltsP a)],
              [(n, ⟨3, true, 1, l.map fun x => pn x.1⟩), (w, ⟨3, true, 1, l.map fun x => pint .i64 x.2⟩), (fo, foC f)]⟩) f.kerns.length
            ⟨fr 98 [(18, pn 0), (17, pint .i64 bw), (16, pn (p + k)), (15, pstr last), (14, pn p), (13, pint .i64 sum), (12, .row w 1 l.length), (11, .row n 1 l.length), (5, .ptr fo 0), (3, pbool true), (2, pstr s), (0, ltsP a)],
              [(n, ⟨3, true, 1, l.map fun x => pn x.1⟩), (w, ⟨3, true, 1, l.map fun x => pint .i64 x.2⟩), (fo, foC f)]⟩ (by
            refine Wk_fr (by simp only [wkb, Nat.reduceEqDiff, Nat.reduceLT, ↓reduceIte, pn]) ?_
            exact ⟨by simp, by simp [names, hnm]⟩) ⟨0, by omega, by omega, rfl⟩ ?_
          rintro z τ ⟨j, hj, rfl, rfl⟩ lp2 hlp2
          have hlow := kst_low (ks := f.kerns) (l := last) (r := c) (bw := bw) (by omega) hkb j
          by_cases hjk : j < f.kerns.length
          · have hgetk : f.kerns[j]? = some f.kerns[j] := List.getElem?_eq_getElem hjk
            have hby := hkb f.kerns[j] (List.getElem_mem hjk)
            have hby2 := hkc f.kerns[j] (List.getElem_mem hjk)
            by_cases hmt : f.kerns[j].left = last ∧ f.kerns[j].right = c
            · obtain ⟨k1, k2⟩ := kst_hit (bw := bw) hjk hpn hmt
              obtain ⟨m1, m2⟩ := hmt
              rw [k1] at hlow ⊢
              repeat' (first
    | (with_reducible apply W_seq_k; intro nx hnx)
    | (with_reducible first | apply W_block | apply W_scope)
    | (with_reducible refine W_prune 524079 ?_; simp only [prb, Nat.reducePow, Nat.reduceDiv, Nat.reduceMod, Nat.reduceBEq]; first | (with_reducible apply W_region_l) | with_reducible refine W_region_draw (id := 17) 1 (.op 0 true (.op 1 true (.op 2 true (.op 3 true (.op 4 true (.op 5 true (.op 6 true (.op 7 true (.op 8 true (.op 9 true (.op 10 true (.op 11 true (.op 12 true (.op 13 true (.op 14 true (.op 15 true (.op 16 true (.op 17 true (.op 18 true (.op 19 true (.op 20 true (.done)))))))))))))))))))))) (by kernel_rfl) ?_)
    | ((first | (with_reducible apply WL_op; intro nx hnx) | with_reducible refine Ev_out ?_ | (with_reducible apply popsD_op; intro nx hnx) | (with_reducible refine popsD_alt ?_ ?_; intro nx hnx) | (with_reducible refine pfresh_k hnm fun nm hnm => ?_; (try simp only [fmb] at hnm)) | (with_reducible refine pborn_mu hnm fun nm hnm => ?_; (try simp only [fmb] at hnm)) | (with_reducible refine pmaybe_k ?_; intro bn hbn)); try (simp (maxSteps := 2000000) (disch := omega) only [evb, evd, eve, constPV, seqK, blockK, scopeK, pbound, pelems, PV.mem?, PV.one, PV.cells, peqs, peq1, pkeys, pkeyt, List.set, Value.cells, ↓popG_eq, ↓pop.eq_1, ↓List.getElem?_map, ↓List.getElem?_cons_zero, ↓List.getElem?_cons_succ, Value.oneCell', Nat.reduceAdd, Nat.reduceMul, Nat.reduceSub, Nat.reduceLeDiff, Nat.reduceEqDiff, ↓reduceIte, ne_eq, reduceCtorEq, forall_const, exists_and_left, exists_eq_left', eq_self, Nat.reduceLT, Int.reduceLT, Int.reduceLE, Int.reduceToNat, Int.reduceAdd, Int.reduceSub, Int.reduceNeg, hnm, Tryd.tf0, Tryd.tf1, Tryd.tf2, Tryd.tf3, Tryd.tf4, Tryd.tf9, Tryd.tf22, Tryd.tf23, Tryd.tf25, Tryd.tf27, Tryd.tf37, Tryd.tf60, Tryd.tf68, Tryd.tf105, Tryd.call67, hgetk, hcut, m1, m2]); repeat (refine And.intro (by omega) ?_))
    | ((with_reducible first | apply WL_nil | apply W_label | apply W_skip | apply W_exit | apply W_ret | apply popsD_done); try simp only [seqK, blockK, scopeK, ↓reduceIte, Nat.reduceEqDiff])
    | with_reducible exact popsD_stop
    | (with_reducible apply pguard_intro <;> (intro hc; (try simp only [hcb, reduceCtorEq, forall_const, ne_eq] at hc); first | (exfalso; omega) | (exfalso; exact hc trivial) | refine Ev_in ?_))
    | (with_reducible apply W_cond_k; intro _ _ ea eb; (simp only [condK, cob, opnd, constPV, Nat.reduceEqDiff, Nat.reduceLT, ↓reduceIte, hcb, reduceCtorEq, forall_const, ne_eq]); subst ea eb; first | (refine ⟨fun hc => ?_, fun hc => ?_⟩ <;> first | (exfalso; omega) | (exfalso; exact hc trivial) | skip) | skip)
    | (with_reducible apply hnx; clear hnx nx)
    | (with_reducible refine And.intro (by omega) ?_)
    | (with_reducible refine And.intro ?_ ?_)
    | (clear hnx nx; with_reducible apply hnx; clear hnx nx)
    | (clear hnx nx; clear hnx nx; with_reducible apply hnx; clear hnx nx))
              all_goals first | exact absurd trivial hc | contradiction | exact fun h => False.elim h | (exfalso; omega) | (exfalso; have hc := of_decide_eq_false hc; omega) | (exfalso; simp only [Bool.not_false, Bool.not_true, decide_eq_true_eq, decide_eq_false_iff_not] at *; omega) | skip
              all_goals
                refine hlp2 _ (f.kerns.length - (j + 1)) ⟨fr 98 [(18, pn (j + 1)), (17, pint .i64 (kst f.kerns last c bw (j + 1))), (16, pn (p + k)), (15, pstr last), (14, pn p), (13, pint .i64 sum), (12, .row w 1 l.length), (11, .row n 1 l.length), (5, .ptr fo 0), (3, pbool true), (2, pstr s), (0, ltsP a)],
                  [(n, ⟨3, true, 1, l.map fun x => pn x.1⟩), (w, ⟨3, true, 1, l.map fun x => pint .i64 x.2⟩), (fo, foC f)]⟩ (by omega) ?_ ⟨j + 1, by omega, rfl, rfl⟩
                rw [k2]
                refine Wk_fr (by simp only [wkb, Nat.reduceEqDiff, Nat.reduceLT, ↓reduceIte, pn]) ?_
                exact ⟨by simp, by simp [names, hnm]⟩
            · have k2 := kst_miss (bw := bw) hjk hmt
              generalize kst f.kerns last c bw j = kw at *
              repeat' (first
    | (with_reducible apply W_seq_k; intro nx hnx)
    | (with_reducible first | apply W_block | apply W_scope)
    | (with_reducible refine W_prune 524079 ?_; simp only [prb, Nat.reducePow, Nat.reduceDiv, Nat.reduceMod, Nat.reduceBEq]; first | (with_reducible apply W_region_l) | with_reducible refine W_region_draw (id := 17) 1 (.op 0 true (.op 1 true (.op 2 true (.op 3 true (.op 4 true (.op 5 true (.op 6 true (.op 7 true (.op 8 true (.op 9 true (.op 10 true (.op 11 true (.op 12 true (.op 13 true (.op 14 true (.op 15 true (.op 16 true (.op 17 true (.op 18 true (.op 19 true (.op 20 true (.done)))))))))))))))))))))) (by kernel_rfl) ?_)
    | ((first | (with_reducible apply WL_op; intro nx hnx) | with_reducible refine Ev_out ?_ | (with_reducible apply popsD_op; intro nx hnx) | (with_reducible refine popsD_alt ?_ ?_; intro nx hnx) | (with_reducible refine pfresh_k hnm fun nm hnm => ?_; (try simp only [fmb] at hnm)) | (with_reducible refine pborn_mu hnm fun nm hnm => ?_; (try simp only [fmb] at hnm)) | (with_reducible refine pmaybe_k ?_; intro bn hbn)); try (simp (maxSteps := 2000000) (disch := omega) only [evb, evd, eve, constPV, seqK, blockK, scopeK, pbound, pelems, PV.mem?, PV.one, PV.cells, peqs, peq1, pkeys, pkeyt, List.set, Value.cells, ↓popG_eq, ↓pop.eq_1, ↓List.getElem?_map, ↓List.getElem?_cons_zero, ↓List.getElem?_cons_succ, Value.oneCell', Nat.reduceAdd, Nat.reduceMul, Nat.reduceSub, Nat.reduceLeDiff, Nat.reduceEqDiff, ↓reduceIte, ne_eq, reduceCtorEq, forall_const, exists_and_left, exists_eq_left', eq_self, Nat.reduceLT, Int.reduceLT, Int.reduceLE, Int.reduceToNat, Int.reduceAdd, Int.reduceSub, Int.reduceNeg, hnm, Tryd.tf0, Tryd.tf1, Tryd.tf2, Tryd.tf3, Tryd.tf4, Tryd.tf9, Tryd.tf22, Tryd.tf23, Tryd.tf25, Tryd.tf27, Tryd.tf37, Tryd.tf60, Tryd.tf68, Tryd.tf105, Tryd.call67, hgetk, hcut]); repeat (refine And.intro (by omega) ?_))
    | ((with_reducible first | apply WL_nil | apply W_label | apply W_skip | apply W_exit | apply W_ret | apply popsD_done); try simp only [seqK, blockK, scopeK, ↓reduceIte, Nat.reduceEqDiff])
    | with_reducible exact popsD_stop
    | (with_reducible apply pguard_intro <;> (intro hc; (try simp only [hcb, reduceCtorEq, forall_const, ne_eq] at hc); first | (exfalso; omega) | (exfalso; exact hc trivial) | refine Ev_in ?_))
    | (with_reducible apply W_cond_k; intro _ _ ea eb; (simp only [condK, cob, opnd, constPV, Nat.reduceEqDiff, Nat.reduceLT, ↓reduceIte, hcb, reduceCtorEq, forall_const, ne_eq]); subst ea eb; first | (refine ⟨fun hc => ?_, fun hc => ?_⟩ <;> first | (exfalso; omega) | (exfalso; exact hc trivial) | skip) | skip)
    | (with_reducible apply hnx; clear hnx nx)
    | (with_reducible refine And.intro (by omega) ?_)
    | (with_reducible refine And.intro ?_ ?_)
    | (clear hnx nx; with_reducible apply hnx; clear hnx nx)
    | (clear hnx nx; clear hnx nx; with_reducible apply hnx; clear hnx nx))
              all_goals first | exact absurd trivial hc | contradiction | exact fun h => False.elim h | (exfalso; omega) | (exfalso; have hc := of_decide_eq_false hc; omega) | (exfalso; simp only [Bool.not_false, Bool.not_true, decide_eq_true_eq, decide_eq_false_iff_not] at *; omega) | skip
              all_goals first
                | (exfalso
                   exact hmt ⟨by assumption, by assumption⟩)
                | skip
              all_goals
                refine hlp2 _ (f.kerns.length - (j + 1)) ⟨fr 98 [(18, pn (j + 1)), (17, pint .i64 (kst f.kerns last c bw (j + 1))), (16, pn (p + k)), (15, pstr last), (14, pn p), (13, pint .i64 sum), (12, .row w 1 l.length), (11, .row n 1 l.length), (5, .ptr fo 0), (3, pbool true), (2, pstr s), (0, ltsP a)],
                  [(n, ⟨3, true, 1, l.map fun x => pn x.1⟩), (w, ⟨3, true, 1, l.map fun x => pint .i64 x.2⟩), (fo, foC f)]⟩ (by omega) ?_ ⟨j + 1, by omega, rfl, rfl⟩
                rw [k2]
                refine Wk_fr (by simp only [wkb, Nat.reduceEqDiff, Nat.reduceLT, ↓reduceIte, pn]) ?_
                exact ⟨by simp, by simp [names, hnm]⟩
          · have hj2 : j = f.kerns.length := by omega
            subst hj2
            rw [kst_end (by omega)] at hlow ⊢
            generalize max 0 (bw - kernF f.kerns last c) = dw at *
            repeat' (first
    | (with_reducible apply W_seq_k; intro nx hnx)
    | (with_reducible first | apply W_block | apply W_scope)
    | (with_reducible refine W_prune 524079 ?_; simp only [prb, Nat.reducePow, Nat.reduceDiv, Nat.reduceMod, Nat.reduceBEq]; first | (with_reducible apply W_region_l) | with_reducible refine W_region_draw (id := 17) 1 (.op 0 true (.op 1 true (.op 2 true (.op 3 true (.op 4 true (.op 5 true (.op 6 true (.op 7 true (.op 8 true (.op 9 true (.op 10 true (.op 11 true (.op 12 true (.op 13 true (.op 14 true (.op 15 true (.op 16 true (.op 17 true (.op 18 true (.op 19 true (.op 20 true (.done)))))))))))))))))))))) (by kernel_rfl) ?_)
    | ((first | (with_reducible apply WL_op; intro nx hnx) | with_reducible refine Ev_out ?_ | (with_reducible apply popsD_op; intro nx hnx) | (with_reducible refine popsD_alt ?_ ?_; intro nx hnx) | (with_reducible refine pfresh_k hnm fun nm hnm => ?_; (try simp only [fmb] at hnm)) | (with_reducible refine pborn_mu hnm fun nm hnm => ?_; (try simp only [fmb] at hnm)) | (with_reducible refine pmaybe_k ?_; intro bn hbn)); try (simp (maxSteps := 2000000) (disch := omega) only [evb, evd, eve, constPV, seqK, blockK, scopeK, pbound, pelems, PV.mem?, PV.one, PV.cells, peqs, peq1, pkeys, pkeyt, List.set, Value.cells, ↓popG_eq, ↓pop.eq_1, ↓List.getElem?_map, ↓List.getElem?_cons_zero, ↓List.getElem?_cons_succ, Value.oneCell', Nat.reduceAdd, Nat.reduceMul, Nat.reduceSub, Nat.reduceLeDiff, Nat.reduceEqDiff, ↓reduceIte, ne_eq, reduceCtorEq, forall_const, exists_and_left, exists_eq_left', eq_self, Nat.reduceLT, Int.reduceLT, Int.reduceLE, Int.reduceToNat, Int.reduceAdd, Int.reduceSub, Int.reduceNeg, hnm, Tryd.tf0, Tryd.tf1, Tryd.tf2, Tryd.tf3, Tryd.tf4, Tryd.tf9, Tryd.tf22, Tryd.tf23, Tryd.tf25, Tryd.tf27, Tryd.tf37, Tryd.tf60, Tryd.tf68, Tryd.tf105, Tryd.call67, hcut]); repeat (refine And.intro (by omega) ?_))
    | ((with_reducible first | apply WL_nil | apply W_label | apply W_skip | apply W_exit | apply W_ret | apply popsD_done); try simp only [seqK, blockK, scopeK, ↓reduceIte, Nat.reduceEqDiff])
    | with_reducible exact popsD_stop
    | (with_reducible apply pguard_intro <;> (intro hc; (try simp only [hcb, reduceCtorEq, forall_const, ne_eq] at hc); first | (exfalso; omega) | (exfalso; exact hc trivial) | refine Ev_in ?_))
    | (with_reducible apply W_cond_k; intro _ _ ea eb; (simp only [condK, cob, opnd, constPV, Nat.reduceEqDiff, Nat.reduceLT, ↓reduceIte, hcb, reduceCtorEq, forall_const, ne_eq]); subst ea eb; first | (refine ⟨fun hc => ?_, fun hc => ?_⟩ <;> first | (exfalso; omega) | (exfalso; exact hc trivial) | skip) | skip)
    | (with_reducible apply hnx; clear hnx nx)
    | (with_reducible refine And.intro (by omega) ?_)
    | (with_reducible refine And.intro ?_ ?_)
    | (clear hnx nx; with_reducible apply hnx; clear hnx nx)
    | (clear hnx nx; clear hnx nx; with_reducible apply hnx; clear hnx nx))
            all_goals first | exact absurd trivial hc | contradiction | exact fun h => False.elim h | (exfalso; omega) | (exfalso; have hc := of_decide_eq_false hc; omega) | (exfalso; simp only [Bool.not_false, Bool.not_true, decide_eq_true_eq, decide_eq_false_iff_not] at *; omega) | skip
            rename_i a2 ha2 a1 ha1 a0 ha0
            refine hlp _ (cs.length - (i + 1)) ⟨fr 98 [(15, pstr (foldM f true cs (i + 1)).2.2.1), (14, pn (foldM f true cs (i + 1)).1), (13, pint .i64 (foldM f true cs (i + 1)).2.1), (12, .row nm 1 (foldM f true cs (i + 1)).2.2.2.length), (11, .row a1 1 (foldM f true cs (i + 1)).2.2.2.length), (5, .ptr fo 0), (3, pbool true), (2, pstr s), (0, ltsP a)],
              [(a1, ⟨3, true, 1, (foldM f true cs (i + 1)).2.2.2.map fun x => pn x.1⟩), (nm, ⟨3, true, 1, (foldM f true cs (i + 1)).2.2.2.map fun x => pint .i64 x.2⟩), (fo, foC f)]⟩ (by omega) ?_ ⟨i + 1, a1, nm, by omega, rfl, ?_, ?_, ?_, rfl⟩
            · rw [hst]
              refine Wk_fr (by simp only [wkb, Nat.reduceEqDiff, Nat.reduceLT, ↓reduceIte, pn, List.length_append, List.length_cons, List.length_nil, Nat.zero_add]) ?_
              exact ⟨by simp, by simp [names, hnm]⟩
            · rw [List.take_succ_eq_append_getElem hil]
              intro x hm
              rcases List.mem_append.1 hm with h | h
              · exact hnz x h
              · simp only [List.mem_singleton] at h
                subst h
                rw [hci]
                exact hwd0
            · rw [hst]
              simp only
              rw [← List.drop_drop]
              exact hch2
            · simp [hnm]
    | false =>
        simp only [stepM, boldF, Bool.false_eq_true, if_false, hclen] at hst
        repeat' (first
    | (with_reducible apply W_seq_k; intro nx hnx)
    | (with_reducible first | apply W_block | apply W_scope)
    | (with_reducible refine W_prune 524079 ?_; simp only [prb, Nat.reducePow, Nat.reduceDiv, Nat.reduceMod, Nat.reduceBEq]; first | (with_reducible apply W_region_l) | with_reducible refine W_region_draw (id := 17) 1 (.op 0 true (.op 1 true (.op 2 true (.op 3 true (.op 4 true (.op 5 true (.op 6 true (.op 7 true (.op 8 true (.op 9 true (.op 10 true (.op 11 true (.op 12 true (.op 13 true (.op 14 true (.op 15 true (.op 16 true (.op 17 true (.op 18 true (.op 19 true (.op 20 true (.done)))))))))))))))))))))) (by kernel_rfl) ?_)
    | ((first | (with_reducible apply WL_op; intro nx hnx) | with_reducible refine Ev_out ?_ | (with_reducible apply popsD_op; intro nx hnx) | (with_reducible refine popsD_alt ?_ ?_; intro nx hnx) | (with_reducible refine pfresh_k hnm fun nm hnm => ?_; (try simp only [fmb] at hnm)) | (with_reducible refine pborn_mu hnm fun nm hnm => ?_; (try simp only [fmb] at hnm)) | (with_reducible refine pmaybe_k ?_; intro bn hbn)); try (simp (maxSteps := 2000000) (disch := omega) only [evb, evd, eve, constPV, seqK, blockK, scopeK, pbound, pelems, PV.mem?, PV.one, PV.cells, peqs, peq1, pkeys, pkeyt, List.set, Value.cells, ↓popG_eq, ↓pop.eq_1, ↓List.getElem?_map, ↓List.getElem?_cons_zero, ↓List.getElem?_cons_succ, Value.oneCell', Nat.reduceAdd, Nat.reduceMul, Nat.reduceSub, Nat.reduceLeDiff, Nat.reduceEqDiff, ↓reduceIte, ne_eq, reduceCtorEq, forall_const, exists_and_left, exists_eq_left', eq_self, Nat.reduceLT, Int.reduceLT, Int.reduceLE, Int.reduceToNat, Int.reduceAdd, Int.reduceSub, Int.reduceNeg, hnm, Tryd.tf0, Tryd.tf1, Tryd.tf2, Tryd.tf3, Tryd.tf4, Tryd.tf9, Tryd.tf22, Tryd.tf23, Tryd.tf25, Tryd.tf27, Tryd.tf37, Tryd.tf60, Tryd.tf68, Tryd.tf105, Tryd.call67]); repeat (refine And.intro (by omega) ?_))
    | ((with_reducible first | apply WL_nil | apply W_label | apply W_skip | apply W_exit | apply W_ret | apply popsD_done); try simp only [seqK, blockK, scopeK, ↓reduceIte, Nat.reduceEqDiff])
    | with_reducible exact popsD_stop
    | (with_reducible apply pguard_intro <;> (intro hc; (try simp only [hcb, reduceCtorEq, forall_const, ne_eq] at hc); first | (exfalso; omega) | (exfalso; exact hc trivial) | refine Ev_in ?_))
    | (with_reducible apply W_cond_k; intro _ _ ea eb; (simp only [condK, cob, opnd, constPV, Nat.reduceEqDiff, Nat.reduceLT, ↓reduceIte, hcb, reduceCtorEq, forall_const, ne_eq]); subst ea eb; first | (refine ⟨fun hc => ?_, fun hc => ?_⟩ <;> first | (exfalso; omega) | (exfalso; exact hc trivial) | skip) | skip)
    | (with_reducible apply hnx; clear hnx nx)
    | (with_reducible refine And.intro (by omega) ?_)
    | (with_reducible refine And.intro ?_ ?_)
    | (with_reducible refine pcall_k (c1) ?_; rintro _ _ ⟨rfl, rfl⟩ -; refine Ev_in ?_)
    | (clear hnx nx; with_reducible apply hnx; clear hnx nx)
    | (clear hnx nx; clear hnx nx; with_reducible apply hnx; clear hnx nx))
        all_goals first | exact absurd trivial hc | contradiction | exact fun h => False.elim h | (exfalso; omega) | (exfalso; have hc := of_decide_eq_false hc; omega) | (exfalso; simp only [Bool.not_false, Bool.not_true, decide_eq_true_eq, decide_eq_false_iff_not] at *; omega) | skip
        · have hz : ∃ c ∈ charsF a f s, c.2 = 0 := ⟨cs[i], by rw [← hcs]; exact List.getElem_mem hil, by rw [hci]; exact hc⟩
          rw [measF_bad hsl2 hz] at hfin
          refine hfin _ _ (Fin_ret3 rfl rfl rfl (Sub_nil _) (.inl ?_))
          simp only [fr_getD_cons, fr_getD_nil, Nat.reduceEqDiff, Nat.reduceLT, ↓reduceIte]
          simp
        · have hwd0 : wd ≠ 0 := by assumption
          refine W_loop_k (fun z τ => ∃ j : Nat, j ≤ f.kerns.length ∧ z = f.kerns.length - j ∧ τ = ⟨fr 98 [(18, pn j), (17, pint .i64 (kst f.kerns last c wd j)), (16, pn (p + k)), (15, pstr last), (14, pn p), (13, pint .i64 sum), (12, .row w 1 l.length), (11, .row n 1 l.length), (5, .ptr fo 0), (3, pbool false), (2, pstr s), (0, ltsP a)],
              [(n, ⟨3, true, 1, l.map fun x => pn x.1⟩), (w, ⟨3, true, 1, l.map fun x => pint .i64 x.2⟩), (fo, foC f)]⟩) f.kerns.length
            ⟨fr 98 [(18, pn 0), (17, pint .i64 wd), (16, pn (p + k)), (15, pstr last), (14, pn p), (13, pint .i64 sum), (12, .row w 1 l.length), (11, .row n 1 l.length), (5, .ptr fo 0), (3, pbool false), (2, pstr s), (0, ltsP a)],
              [(n, ⟨3, true, 1, l.map fun x => pn x.1⟩), (w, ⟨3, true, 1, l.map fun x => pint .i64 x.2⟩), (fo, foC f)]⟩ (by
            refine Wk_fr (by simp only [wkb, Nat.reduceEqDiff, Nat.reduceLT, ↓reduceIte, pn]) ?_
            exact ⟨by simp, by simp [names, hnm]⟩) ⟨0, by omega, by omega, rfl⟩ ?_
          rintro z τ ⟨j, hj, rfl, rfl⟩ lp2 hlp2
          have hlow := kst_low (ks := f.kerns) (l := last) (r := c) (bw := wd) (by omega) hkb j
          by_cases hjk : j < f.kerns.length
          · have hgetk : f.kerns[j]? = some f.kerns[j] := List.getElem?_eq_getElem hjk
            have hby := hkb f.kerns[j] (List.getElem_mem hjk)
            have hby2 := hkc f.kerns[j] (List.getElem_mem hjk)
            by_cases hmt : f.kerns[j].left = last ∧ f.kerns[j].right = c
            · obtain ⟨k1, k2⟩ := kst_hit (bw := wd) hjk hpn hmt
              obtain ⟨m1, m2⟩ := hmt
              rw [k1] at hlow ⊢
              repeat' (first
    | (with_reducible apply W_seq_k; intro nx hnx)
    | (with_reducible first | apply W_block | apply W_scope)
    | (with_reducible refine W_prune 524079 ?_; simp only [prb, Nat.reducePow, Nat.reduceDiv, Nat.reduceMod, Nat.reduceBEq]; first | (with_reducible apply W_region_l) | with_reducible refine W_region_draw (id := 17) 1 (.op 0 true (.op 1 true (.op 2 true (.op 3 true (.op 4 true (.op 5 true (.op 6 true (.op 7 true (.op 8 true (.op 9 true (.op 10 true (.op 11 true (.op 12 true (.op 13 true (.op 14 true (.op 15 true (.op 16 true (.op 17 true (.op 18 true (.op 19 true (.op 20 true (.done)))))))))))))))))))))) (by kernel_rfl) ?_)
    | ((first | (with_reducible apply WL_op; intro nx hnx) | with_reducible refine Ev_out ?_ | (with_reducible apply popsD_op; intro nx hnx) | (with_reducible refine popsD_alt ?_ ?_; intro nx hnx) | (with_reducible refine pfresh_k hnm fun nm hnm => ?_; (try simp only [fmb] at hnm)) | (with_reducible refine pborn_mu hnm fun nm hnm => ?_; (try simp only [fmb] at hnm)) | (with_reducible refine pmaybe_k ?_; intro bn hbn)); try (simp (maxSteps := 2000000) (disch := omega) only [evb, evd, eve, constPV, seqK, blockK, scopeK, pbound, pelems, PV.mem?, PV.one, PV.cells, peqs, peq1, pkeys, pkeyt, List.set, Value.cells, ↓popG_eq, ↓pop.eq_1, ↓List.getElem?_map, ↓List.getElem?_cons_zero, ↓List.getElem?_cons_succ, Value.oneCell', Nat.reduceAdd, Nat.reduceMul, Nat.reduceSub, Nat.reduceLeDiff, Nat.reduceEqDiff, ↓reduceIte, ne_eq, reduceCtorEq, forall_const, exists_and_left, exists_eq_left', eq_self, Nat.reduceLT, Int.reduceLT, Int.reduceLE, Int.reduceToNat, Int.reduceAdd, Int.reduceSub, Int.reduceNeg, hnm, Tryd.tf0, Tryd.tf1, Tryd.tf2, Tryd.tf3, Tryd.tf4, Tryd.tf9, Tryd.tf22, Tryd.tf23, Tryd.tf25, Tryd.tf27, Tryd.tf37, Tryd.tf60, Tryd.tf68, Tryd.tf105, Tryd.call67, hgetk, hcut, m1, m2]); repeat (refine And.intro (by omega) ?_))
    | ((with_reducible first | apply WL_nil | apply W_label | apply W_skip | apply W_exit | apply W_ret | apply popsD_done); try simp only [seqK, blockK, scopeK, ↓reduceIte, Nat.reduceEqDiff])
    | with_reducible exact popsD_stop
    | (with_reducible apply pguard_intro <;> (intro hc; (try simp only [hcb, reduceCtorEq, forall_const, ne_eq] at hc); first | (exfalso; omega) | (exfalso; exact hc trivial) | refine Ev_in ?_))
    | (with_reducible apply W_cond_k; intro _ _ ea eb; (simp only [condK, cob, opnd, constPV, Nat.reduceEqDiff, Nat.reduceLT, ↓reduceIte, hcb, reduceCtorEq, forall_const, ne_eq]); subst ea eb; first | (refine ⟨fun hc => ?_, fun hc => ?_⟩ <;> first | (exfalso; omega) | (exfalso; exact hc trivial) | skip) | skip)
    | (with_reducible apply hnx; clear hnx nx)
    | (with_reducible refine And.intro (by omega) ?_)
    | (with_reducible refine And.intro ?_ ?_)
    | (clear hnx nx; with_reducible apply hnx; clear hnx nx)
    | (clear hnx nx; clear hnx nx; with_reducible apply hnx; clear hnx nx))
              all_goals first | exact absurd trivial hc | contradiction | exact fun h => False.elim h | (exfalso; omega) | (exfalso; have hc := of_decide_eq_false hc; omega) | (exfalso; simp only [Bool.not_false, Bool.not_true, decide_eq_true_eq, decide_eq_false_iff_not] at *; omega) | skip
              all_goals
                refine hlp2 _ (f.kerns.length - (j + 1)) ⟨fr 98 [(18, pn (j + 1)), (17, pint .i64 (kst f.kerns last c wd (j + 1))), (16, pn (p + k)), (15, pstr last), (14, pn p), (13, pint .i64 sum), (12, .row w 1 l.length), (11, .row n 1 l.length), (5, .ptr fo 0), (3, pbool false), (2, pstr s), (0, ltsP a)],
                  [(n, ⟨3, true, 1, l.map fun x => pn x.1⟩), (w, ⟨3, true, 1, l.map fun x => pint .i64 x.2⟩), (fo, foC f)]⟩ (by omega) ?_ ⟨j + 1, by omega, rfl, rfl⟩
                rw [k2]
                refine Wk_fr (by simp only [wkb, Nat.reduceEqDiff, Nat.reduceLT, ↓reduceIte, pn]) ?_
                exact ⟨by simp, by simp [names, hnm]⟩
            · have k2 := kst_miss (bw := wd) hjk hmt
              generalize kst f.kerns last c wd j = kw at *
              repeat' (first
    | (with_reducible apply W_seq_k; intro nx hnx)
    | (with_reducible first | apply W_block | apply W_scope)
    | (with_reducible refine W_prune 524079 ?_; simp only [prb, Nat.reducePow, Nat.reduceDiv, Nat.reduceMod, Nat.reduceBEq]; first | (with_reducible apply W_region_l) | with_reducible refine W_region_draw (id := 17) 1 (.op 0 true (.op 1 true (.op 2 true (.op 3 true (.op 4 true (.op 5 true (.op 6 true (.op 7 true (.op 8 true (.op 9 true (.op 10 true (.op 11 true (.op 12 true (.op 13 true (.op 14 true (.op 15 true (.op 16 true (.op 17 true (.op 18 true (.op 19 true (.op 20 true (.done)))))))))))))))))))))) (by kernel_rfl) ?_)
    | ((first | (with_reducible apply WL_op; intro nx hnx) | with_reducible refine Ev_out ?_ | (with_reducible apply popsD_op; intro nx hnx) | (with_reducible refine popsD_alt ?_ ?_; intro nx hnx) | (with_reducible refine pfresh_k hnm fun nm hnm => ?_; (try simp only [fmb] at hnm)) | (with_reducible refine pborn_mu hnm fun nm hnm => ?_; (try simp only [fmb] at hnm)) | (with_reducible refine pmaybe_k ?_; intro bn hbn)); try (simp (maxSteps := 2000000) (disch := omega) only [evb, evd, eve, constPV, seqK, blockK, scopeK, pbound, pelems, PV.mem?, PV.one, PV.cells, peqs, peq1, pkeys, pkeyt, List.set, Value.cells, ↓popG_eq, ↓pop.eq_1, ↓List.getElem?_map, ↓List.getElem?_cons_zero, ↓List.getElem?_cons_succ, Value.oneCell', Nat.reduceAdd, Nat.reduceMul, Nat.reduceSub, Nat.reduceLeDiff, Nat.reduceEqDiff, ↓reduceIte, ne_eq, reduceCtorEq, forall_const, exists_and_left, exists_eq_left', eq_self, Nat.reduceLT, Int.reduceLT, Int.reduceLE, Int.reduceToNat, Int.reduceAdd, Int.reduceSub, Int.reduceNeg, hnm, Tryd.tf0, Tryd.tf1, Tryd.tf2, Tryd.tf3, Tryd.tf4, Tryd.tf9, Tryd.tf22, Tryd.tf23, Tryd.tf25, Tryd.tf27, Tryd.tf37, Tryd.tf60, Tryd.tf68, Tryd.tf105, Tryd.call67, hgetk, hcut]); repeat (refine And.intro (by omega) ?_))
    | ((with_reducible first | apply WL_nil | apply W_label | apply W_skip | apply W_exit | apply W_ret | apply popsD_done); try simp only [seqK, blockK, scopeK, ↓reduceIte, Nat.reduceEqDiff])
    | with_reducible exact popsD_stop
    | (with_reducible apply pguard_intro <;> (intro hc; (try simp only [hcb, reduceCtorEq, forall_const, ne_eq] at hc); first | (exfalso; omega) | (exfalso; exact hc trivial) | refine Ev_in ?_))
    | (with_reducible apply W_cond_k; intro _ _ ea eb; (simp only [condK, cob, opnd, constPV, Nat.reduceEqDiff, Nat.reduceLT, ↓reduceIte, hcb, reduceCtorEq, forall_const, ne_eq]); subst ea eb; first | (refine ⟨fun hc => ?_, fun hc => ?_⟩ <;> first | (exfalso; omega) | (exfalso; exact hc trivial) | skip) | skip)
    | (with_reducible apply hnx; clear hnx nx)
    | (with_reducible refine And.intro (by omega) ?_)
    | (with_reducible refine And.intro ?_ ?_)
    | (clear hnx nx; with_reducible apply hnx; clear hnx nx)
    | (clear hnx nx; clear hnx nx; with_reducible apply hnx; clear hnx nx))
              all_goals first | exact absurd trivial hc | contradiction | exact fun h => False.elim h | (exfalso; omega) | (exfalso; have hc := of_decide_eq_false hc; omega) | (exfalso; simp only [Bool.not_false, Bool.not_true, decide_eq_true_eq, decide_eq_false_iff_not] at *; omega) | skip
              all_goals first
                | (exfalso
                   exact hmt ⟨by assumption, by assumption⟩)
                | skip
              all_goals
                refine hlp2 _ (f.kerns.length - (j + 1)) ⟨fr 98 [(18, pn (j + 1)), (17, pint .i64 (kst f.kerns last c wd (j + 1))), (16, pn (p + k)), (15, pstr last), (14, pn p), (13, pint .i64 sum), (12, .row w 1 l.length), (11, .row n 1 l.length), (5, .ptr fo 0), (3, pbool false), (2, pstr s), (0, ltsP a)],
                  [(n, ⟨3, true, 1, l.map fun x => pn x.1⟩), (w, ⟨3, true, 1, l.map fun x => pint .i64 x.2⟩), (fo, foC f)]⟩ (by omega) ?_ ⟨j + 1, by omega, rfl, rfl⟩
                rw [k2]
                refine Wk_fr (by simp only [wkb, Nat.reduceEqDiff, Nat.reduceLT, ↓reduceIte, pn]) ?_
                exact ⟨by simp, by simp [names, hnm]⟩
          · have hj2 : j = f.kerns.length := by omega
            subst hj2
            rw [kst_end (by omega)] at hlow ⊢
            generalize max 0 (wd - kernF f.kerns last c) = dw at *
            repeat' (first
    | (with_reducible apply W_seq_k; intro nx hnx)
    | (with_reducible first | apply W_block | apply W_scope)
    | (with_reducible refine W_prune 524079 ?_; simp only [prb, Nat.reducePow, Nat.reduceDiv, Nat.reduceMod, Nat.reduceBEq]; first | (with_reducible apply W_region_l) | with_reducible refine W_region_draw (id := 17) 1 (.op 0 true (.op 1 true (.op 2 true (.op 3 true (.op 4 true (.op 5 true (.op 6 true (.op 7 true (.op 8 true (.op 9 true (.op 10 true (.op 11 true (.op 12 true (.op 13 true (.op 14 true (.op 15 true (.op 16 true (.op 17 true (.op 18 true (.op 19 true (.op 20 true (.done)))))))))))))))))))))) (by kernel_rfl) ?_)
    | ((first | (with_reducible apply WL_op; intro nx hnx) | with_reducible refine Ev_out ?_ | (with_reducible apply popsD_op; intro nx hnx) | (with_reducible refine popsD_alt ?_ ?_; intro nx hnx) | (with_reducible refine pfresh_k hnm fun nm hnm => ?_; (try simp only [fmb] at hnm)) | (with_reducible refine pborn_mu hnm fun nm hnm => ?_; (try simp only [fmb] at hnm)) | (with_reducible refine pmaybe_k ?_; intro bn hbn)); try (simp (maxSteps := 2000000) (disch := omega) only [evb, evd, eve, constPV, seqK, blockK, scopeK, pbound, pelems, PV.mem?, PV.one, PV.cells, peqs, peq1, pkeys, pkeyt, List.set, Value.cells, ↓popG_eq, ↓pop.eq_1, ↓List.getElem?_map, ↓List.getElem?_cons_zero, ↓List.getElem?_cons_succ, Value.oneCell', Nat.reduceAdd, Nat.reduceMul, Nat.reduceSub, Nat.reduceLeDiff, Nat.reduceEqDiff, ↓reduceIte, ne_eq, reduceCtorEq, forall_const, exists_and_left, exists_eq_left', eq_self, Nat.reduceLT, Int.reduceLT, Int.reduceLE, Int.reduceToNat, Int.reduceAdd, Int.reduceSub, Int.reduceNeg, hnm, Tryd.tf0, Tryd.tf1, Tryd.tf2, Tryd.tf3, Tryd.tf4, Tryd.tf9, Tryd.tf22, Tryd.tf23, Tryd.tf25, Tryd.tf27, Tryd.tf37, Tryd.tf60, Tryd.tf68, Tryd.tf105, Tryd.call67, hcut]); repeat (refine And.intro (by omega) ?_))
    | ((with_reducible first | apply WL_nil | apply W_label | apply W_skip | apply W_exit | apply W_ret | apply popsD_done); try simp only [seqK, blockK, scopeK, ↓reduceIte, Nat.reduceEqDiff])
    | with_reducible exact popsD_stop
    | (with_reducible apply pguard_intro <;> (intro hc; (try simp only [hcb, reduceCtorEq, forall_const, ne_eq] at hc); first | (exfalso; omega) | (exfalso; exact hc trivial) | refine Ev_in ?_))
    | (with_reducible apply W_cond_k; intro _ _ ea eb; (simp only [condK, cob, opnd, constPV, Nat.reduceEqDiff, Nat.reduceLT, ↓reduceIte, hcb, reduceCtorEq, forall_const, ne_eq]); subst ea eb; first | (refine ⟨fun hc => ?_, fun hc => ?_⟩ <;> first | (exfalso; omega) | (exfalso; exact hc trivial) | skip) | skip)
    | (with_reducible apply hnx; clear hnx nx)
    | (with_reducible refine And.intro (by omega) ?_)
    | (with_reducible refine And.intro ?_ ?_)
    | (clear hnx nx; with_reducible apply hnx; clear hnx nx)
    | (clear hnx nx; clear hnx nx; with_reducible apply hnx; clear hnx nx))
            all_goals first | exact absurd trivial hc | contradiction | exact fun h => False.elim h | (exfalso; omega) | (exfalso; have hc := of_decide_eq_false hc; omega) | (exfalso; simp only [Bool.not_false, Bool.not_true, decide_eq_true_eq, decide_eq_false_iff_not] at *; omega) | skip
            rename_i a2 ha2 a1 ha1 a0 ha0
            refine hlp _ (cs.length - (i + 1)) ⟨fr 98 [(15, pstr (foldM f false cs (i + 1)).2.2.1), (14, pn (foldM f false cs (i + 1)).1), (13, pint .i64 (foldM f false cs (i + 1)).2.1), (12, .row nm 1 (foldM f false cs (i + 1)).2.2.2.length), (11, .row a1 1 (foldM f false cs (i + 1)).2.2.2.length), (5, .ptr fo 0), (3, pbool false), (2, pstr s), (0, ltsP a)],
              [(a1, ⟨3, true, 1, (foldM f false cs (i + 1)).2.2.2.map fun x => pn x.1⟩), (nm, ⟨3, true, 1, (foldM f false cs (i + 1)).2.2.2.map fun x => pint .i64 x.2⟩), (fo, foC f)]⟩ (by omega) ?_ ⟨i + 1, a1, nm, by omega, rfl, ?_, ?_, ?_, rfl⟩
            · rw [hst]
              refine Wk_fr (by simp only [wkb, Nat.reduceEqDiff, Nat.reduceLT, ↓reduceIte, pn, List.length_append, List.length_cons, List.length_nil, Nat.zero_add]) ?_
              exact ⟨by simp, by simp [names, hnm]⟩
            · rw [List.take_succ_eq_append_getElem hil]
              intro x hm
              rcases List.mem_append.1 hm with h | h
              · exact hnz x h
              · simp only [List.mem_singleton] at h
                subst h
                rw [hci]
                exact hwd0
            · rw [hst]
              simp only
              rw [← List.drop_drop]
              exact hch2
            · simp [hnm]
  · have hi2 : i = cs.length := by omega
    subst hi2
    rw [List.take_length, hcs] at hnz
    have hm := measF_ok (bold := bold) hsl2 hnz
    rw [← hcs] at hm
    have hpe : (foldM f bold cs cs.length).1 = s.length := by rw [hcs]; exact foldM_end
    have hml : (foldM f bold cs cs.length).2.2.2.length = cs.length := foldM_len _ (Nat.le_refl _)
    rw [hm] at hfin
    generalize foldM f bold cs cs.length = st at *
    obtain ⟨p, sum, last, l⟩ := st
    simp only at *
    repeat' (first
    | (with_reducible apply W_seq_k; intro nx hnx)
    | (with_reducible first | apply W_block | apply W_scope)
    | (with_reducible refine W_prune 524079 ?_; simp only [prb, Nat.reducePow, Nat.reduceDiv, Nat.reduceMod, Nat.reduceBEq]; first | (with_reducible apply W_region_l) | with_reducible refine W_region_draw (id := 17) 1 (.op 0 true (.op 1 true (.op 2 true (.op 3 true (.op 4 true (.op 5 true (.op 6 true (.op 7 true (.op 8 true (.op 9 true (.op 10 true (.op 11 true (.op 12 true (.op 13 true (.op 14 true (.op 15 true (.op 16 true (.op 17 true (.op 18 true (.op 19 true (.op 20 true (.done)))))))))))))))))))))) (by kernel_rfl) ?_)
    | ((first | (with_reducible apply WL_op; intro nx hnx) | with_reducible refine Ev_out ?_ | (with_reducible apply popsD_op; intro nx hnx) | (with_reducible refine popsD_alt ?_ ?_; intro nx hnx) | (with_reducible refine pfresh_k hnm fun nm hnm => ?_; (try simp only [fmb] at hnm)) | (with_reducible refine pborn_mu hnm fun nm hnm => ?_; (try simp only [fmb] at hnm)) | (with_reducible refine pmaybe_k ?_; intro bn hbn)); try (simp (maxSteps := 2000000) (disch := omega) only [evb, evd, eve, constPV, seqK, blockK, scopeK, pbound, pelems, PV.mem?, PV.one, PV.cells, peqs, peq1, pkeys, pkeyt, List.set, Value.cells, ↓popG_eq, ↓pop.eq_1, ↓List.getElem?_map, ↓List.getElem?_cons_zero, ↓List.getElem?_cons_succ, Value.oneCell', Nat.reduceAdd, Nat.reduceMul, Nat.reduceSub, Nat.reduceLeDiff, Nat.reduceEqDiff, ↓reduceIte, ne_eq, reduceCtorEq, forall_const, exists_and_left, exists_eq_left', eq_self, Nat.reduceLT, Int.reduceLT, Int.reduceLE, Int.reduceToNat, Int.reduceAdd, Int.reduceSub, Int.reduceNeg, hnm, Tryd.tf0, Tryd.tf1, Tryd.tf2, Tryd.tf3, Tryd.tf4, Tryd.tf9, Tryd.tf22, Tryd.tf23, Tryd.tf25, Tryd.tf27, Tryd.tf37, Tryd.tf60, Tryd.tf68, Tryd.tf105, Tryd.call67]); repeat (refine And.intro (by omega) ?_))
    | ((with_reducible first | apply WL_nil | apply W_label | apply W_skip | apply W_exit | apply W_ret | apply popsD_done); try simp only [seqK, blockK, scopeK, ↓reduceIte, Nat.reduceEqDiff])
    | with_reducible exact popsD_stop
    | (with_reducible apply pguard_intro <;> (intro hc; (try simp only [hcb, reduceCtorEq, forall_const, ne_eq] at hc); first | (exfalso; omega) | (exfalso; exact hc trivial) | refine Ev_in ?_))
    | (with_reducible apply W_cond_k; intro _ _ ea eb; (simp only [condK, cob, opnd, constPV, Nat.reduceEqDiff, Nat.reduceLT, ↓reduceIte, hcb, reduceCtorEq, forall_const, ne_eq]); subst ea eb; first | (refine ⟨fun hc => ?_, fun hc => ?_⟩ <;> first | (exfalso; omega) | (exfalso; exact hc trivial) | skip) | skip)
    | (with_reducible apply hnx; clear hnx nx)
    | (with_reducible refine And.intro (by omega) ?_)
    | (with_reducible refine And.intro ?_ ?_)
    | (clear hnx nx; with_reducible apply hnx; clear hnx nx)
    | (clear hnx nx; clear hnx nx; with_reducible apply hnx; clear hnx nx))
    all_goals first | exact absurd trivial hc | contradiction | exact fun h => False.elim h | (exfalso; omega) | (exfalso; have hc := of_decide_eq_false hc; omega) | (exfalso; simp only [Bool.not_false, Bool.not_true, decide_eq_true_eq, decide_eq_false_iff_not] at *; omega) | skip
    all_goals
      refine hfin _ _ (Fin_ret3 rfl rfl rfl (H := [(n, ⟨3, true, 1, l.map fun x => pn x.1⟩), (w, ⟨3, true, 1, l.map fun x => pint .i64 x.2⟩)]) ⟨by simp, by simp [names, hnm]⟩ (.inr ⟨rfl, n, w, ?_, rfl⟩))
      simp only [fr_getD_cons, fr_getD_nil, Nat.reduceEqDiff, Nat.reduceLT, ↓reduceIte]
end Go.PM

namespace Go.PM
open Go.Proofs
attribute [local irreducible] W PCalls pcall pcallI WL
set_option maxRecDepth 100000
set_option maxHeartbeats 8000000
theorem reserved_c (G : Globs) (c : UInt8) : PCalls Tryd.prog G 74 [pbyte c] [] (fun res H => res = pbool (!okB c) ∧ H = []) := by
  (refine PCalls_f Tryd.func74 rfl Tryd.ntmps74 Tryd.results74 (by simp) fun fin hfin => ?_; have hnm : True := trivial; simp (maxSteps := 2000000) (disch := omega) only [evb, evd, eve, constPV, seqK, blockK, scopeK, pbound, pelems, PV.mem?, PV.one, PV.cells, peqs, peq1, pkeys, pkeyt, List.set, Value.cells, ↓popG_eq, ↓pop.eq_1, ↓List.getElem?_map, ↓List.getElem?_cons_zero, ↓List.getElem?_cons_succ, Value.oneCell', Nat.reduceAdd, Nat.reduceMul, Nat.reduceSub, Nat.reduceLeDiff, Nat.reduceEqDiff, ↓reduceIte, ne_eq, reduceCtorEq, forall_const, exists_and_left, exists_eq_left', eq_self, Nat.reduceLT, Int.reduceLT, Int.reduceLE, Int.reduceToNat, Int.reduceAdd, Int.reduceSub, Int.reduceNeg, hnm, Tryd.tf3, Tryd.tf4, Tryd.tf5, Tryd.tf9])
  repeat' (first
    | (with_reducible apply W_seq_k; intro nx hnx)
    | (with_reducible first | apply W_block | apply W_scope)
    | (with_reducible refine W_prune 13 ?_; simp only [prb, Nat.reducePow, Nat.reduceDiv, Nat.reduceMod, Nat.reduceBEq]; with_reducible apply W_region_l)
    | ((first | (with_reducible apply WL_op; intro nx hnx) | with_reducible refine Ev_out ?_); try (simp (maxSteps := 2000000) (disch := omega) only [evb, evd, eve, constPV, seqK, blockK, scopeK, pbound, pelems, PV.mem?, PV.one, PV.cells, peqs, peq1, pkeys, pkeyt, List.set, Value.cells, ↓popG_eq, ↓pop.eq_1, ↓List.getElem?_map, ↓List.getElem?_cons_zero, ↓List.getElem?_cons_succ, Value.oneCell', Nat.reduceAdd, Nat.reduceMul, Nat.reduceSub, Nat.reduceLeDiff, Nat.reduceEqDiff, ↓reduceIte, ne_eq, reduceCtorEq, forall_const, exists_and_left, exists_eq_left', eq_self, Nat.reduceLT, Int.reduceLT, Int.reduceLE, Int.reduceToNat, Int.reduceAdd, Int.reduceSub, Int.reduceNeg, hnm, Tryd.tf3, Tryd.tf4, Tryd.tf5, Tryd.tf9]); repeat (refine And.intro (by omega) ?_))
    | ((with_reducible first | apply WL_nil | apply W_label | apply W_skip | apply W_exit | apply W_ret); try simp only [seqK, blockK, scopeK, ↓reduceIte, Nat.reduceEqDiff])
    | (with_reducible apply W_cond_k; intro _ _ ea eb; (simp only [condK, cob, opnd, constPV, Nat.reduceEqDiff, Nat.reduceLT, ↓reduceIte, hcb, reduceCtorEq, forall_const, ne_eq]); subst ea eb; first | (refine ⟨fun hc => ?_, fun hc => ?_⟩ <;> first | (exfalso; omega) | (exfalso; exact hc trivial) | skip) | skip)
    | (with_reducible apply hnx; clear hnx nx)
    | (with_reducible refine And.intro (by omega) ?_)
    | (with_reducible refine And.intro ?_ ?_)
    | (clear hnx nx; with_reducible apply hnx; clear hnx nx)
    | (clear hnx nx; clear hnx nx; with_reducible apply hnx; clear hnx nx))
  refine W_loop_k (fun z τ => ∃ i : Nat, i ≤ 30 ∧ z = 30 - i ∧ (resB.take i).contains c = false ∧ τ = ⟨fr 14 [(3, pn i), (0, pbyte c)], []⟩) 30
    ⟨fr 14 [(3, pn 0), (0, pbyte c)], []⟩ (by
    exact Wk_fr (by simp only [wkb, Nat.reduceEqDiff, Nat.reduceLT, ↓reduceIte, pn]) (Sub_nil _)) ⟨0, by omega, by omega, by simp, rfl⟩ ?_
  rintro z τ ⟨i, hi, rfl, hn, rfl⟩ lp hlp
  have hrl : resB.length = 30 := rfl
  by_cases hil : i < 30
  · repeat' (first
    | (with_reducible apply W_seq_k; intro nx hnx)
    | (with_reducible first | apply W_block | apply W_scope)
    | (with_reducible refine W_prune 13 ?_; simp only [prb, Nat.reducePow, Nat.reduceDiv, Nat.reduceMod, Nat.reduceBEq]; with_reducible apply W_region_l)
    | ((first | (with_reducible apply WL_op; intro nx hnx) | with_reducible refine Ev_out ?_); try (simp (maxSteps := 2000000) (disch := omega) only [evb, evd, eve, constPV, seqK, blockK, scopeK, pbound, pelems, PV.mem?, PV.one, PV.cells, peqs, peq1, pkeys, pkeyt, List.set, Value.cells, ↓popG_eq, ↓pop.eq_1, ↓List.getElem?_map, ↓List.getElem?_cons_zero, ↓List.getElem?_cons_succ, Value.oneCell', Nat.reduceAdd, Nat.reduceMul, Nat.reduceSub, Nat.reduceLeDiff, Nat.reduceEqDiff, ↓reduceIte, ne_eq, reduceCtorEq, forall_const, exists_and_left, exists_eq_left', eq_self, Nat.reduceLT, Int.reduceLT, Int.reduceLE, Int.reduceToNat, Int.reduceAdd, Int.reduceSub, Int.reduceNeg, hnm, Tryd.tf3, Tryd.tf4, Tryd.tf5, Tryd.tf9]); repeat (refine And.intro (by omega) ?_))
    | ((with_reducible first | apply WL_nil | apply W_label | apply W_skip | apply W_exit | apply W_ret); try simp only [seqK, blockK, scopeK, ↓reduceIte, Nat.reduceEqDiff])
    | (with_reducible apply W_cond_k; intro _ _ ea eb; (simp only [condK, cob, opnd, constPV, Nat.reduceEqDiff, Nat.reduceLT, ↓reduceIte, hcb, reduceCtorEq, forall_const, ne_eq]); subst ea eb; first | (refine ⟨fun hc => ?_, fun hc => ?_⟩ <;> first | (exfalso; omega) | (exfalso; exact hc trivial) | skip) | skip)
    | (with_reducible apply hnx; clear hnx nx)
    | (with_reducible refine And.intro (by omega) ?_)
    | (with_reducible refine And.intro ?_ ?_)
    | (clear hnx nx; with_reducible apply hnx; clear hnx nx)
    | (clear hnx nx; clear hnx nx; with_reducible apply hnx; clear hnx nx))
    all_goals first
      | exact absurd trivial hc
      | exact fun h => False.elim h
      | (exfalso
         omega)
      | skip
    · have hg : resB.getD i 0 = resB[i]'(by omega) := by rw [List.getD_eq_getElem?_getD, List.getElem?_eq_getElem (by omega)]; rfl
      have he : resB.getD i 0 = c := by first | exact hc | exact UInt8.toNat_inj.1 hc | exact UInt8.toNat_inj.1 (Int.ofNat_inj.1 hc)
      have hm : c ∈ resB := by
        rw [← he, hg]
        exact List.getElem_mem _
      refine hfin _ _ (Fin_ret1 rfl (Sub_nil _) ?_); simp only [List.getD_cons_zero, List.getD_cons_succ, fr_getD_cons, fr_getD_nil, Nat.reduceEqDiff, Nat.reduceLT, ↓reduceIte]
      refine ⟨?_, by trivial⟩
      simp [okB, hm]
    · have hg : resB.getD i 0 = resB[i]'(by omega) := by rw [List.getD_eq_getElem?_getD, List.getElem?_eq_getElem (by omega)]; rfl
      refine hlp _ (30 - (i + 1)) _ (by omega) ?_ ⟨i + 1, by omega, rfl, ?_, rfl⟩
      · exact Wk_fr (by simp only [wkb, Nat.reduceEqDiff, Nat.reduceLT, ↓reduceIte, pn]) (Sub_nil _)
      · rw [List.take_add_one, List.getElem?_eq_getElem (by omega), ← hg]
        have he : ¬ c = resB.getD i 0 := fun e => by first | exact hc e.symm | exact hc (UInt8.toNat_inj.2 e.symm) | exact hc (Int.ofNat_inj.2 (UInt8.toNat_inj.2 e.symm))
        generalize resB.getD i 0 = d at *
        simp only [List.contains_eq_mem, decide_eq_false_iff_not, List.mem_append, Option.toList_some, List.mem_singleton, not_or] at hn ⊢
        exact ⟨hn, he⟩
  · have hi2 : i = 30 := by omega
    subst hi2
    repeat' (first
    | (with_reducible apply W_seq_k; intro nx hnx)
    | (with_reducible first | apply W_block | apply W_scope)
    | (with_reducible refine W_prune 13 ?_; simp only [prb, Nat.reducePow, Nat.reduceDiv, Nat.reduceMod, Nat.reduceBEq]; with_reducible apply W_region_l)
    | ((first | (with_reducible apply WL_op; intro nx hnx) | with_reducible refine Ev_out ?_); try (simp (maxSteps := 2000000) (disch := omega) only [evb, evd, eve, constPV, seqK, blockK, scopeK, pbound, pelems, PV.mem?, PV.one, PV.cells, peqs, peq1, pkeys, pkeyt, List.set, Value.cells, ↓popG_eq, ↓pop.eq_1, ↓List.getElem?_map, ↓List.getElem?_cons_zero, ↓List.getElem?_cons_succ, Value.oneCell', Nat.reduceAdd, Nat.reduceMul, Nat.reduceSub, Nat.reduceLeDiff, Nat.reduceEqDiff, ↓reduceIte, ne_eq, reduceCtorEq, forall_const, exists_and_left, exists_eq_left', eq_self, Nat.reduceLT, Int.reduceLT, Int.reduceLE, Int.reduceToNat, Int.reduceAdd, Int.reduceSub, Int.reduceNeg, hnm, Tryd.tf3, Tryd.tf4, Tryd.tf5, Tryd.tf9]); repeat (refine And.intro (by omega) ?_))
    | ((with_reducible first | apply WL_nil | apply W_label | apply W_skip | apply W_exit | apply W_ret); try simp only [seqK, blockK, scopeK, ↓reduceIte, Nat.reduceEqDiff])
    | (with_reducible apply W_cond_k; intro _ _ ea eb; (simp only [condK, cob, opnd, constPV, Nat.reduceEqDiff, Nat.reduceLT, ↓reduceIte, hcb, reduceCtorEq, forall_const, ne_eq]); subst ea eb; first | (refine ⟨fun hc => ?_, fun hc => ?_⟩ <;> first | (exfalso; omega) | (exfalso; exact hc trivial) | skip) | skip)
    | (with_reducible apply hnx; clear hnx nx)
    | (with_reducible refine And.intro (by omega) ?_)
    | (with_reducible refine And.intro ?_ ?_)
    | (clear hnx nx; with_reducible apply hnx; clear hnx nx)
    | (clear hnx nx; clear hnx nx; with_reducible apply hnx; clear hnx nx))
    all_goals first
      | exact absurd trivial hc
      | exact fun h => False.elim h
      | (exfalso
         omega)
      | skip
    all_goals
      refine hfin _ _ (Fin_ret1 rfl (Sub_nil _) ?_); simp only [List.getD_cons_zero, List.getD_cons_succ, fr_getD_cons, fr_getD_nil, Nat.reduceEqDiff, Nat.reduceLT, ↓reduceIte]
      refine ⟨?_, by trivial⟩
      rw [List.take_of_length_le (by omega)] at hn
      simp only [okB, hn]
      by_cases h : (c.toNat : Int) < 33
      · have h2 : ¬ 33 ≤ c.toNat := by omega
        simp [h2]
        omega
      · have h2 : 33 ≤ c.toNat := by omega
        simp [h2]
        omega
theorem rplain_c (G : Globs) (s : List UInt8) (hs : (s.length : Int) ≤ 9223372036854775807) : PCalls Tryd.prog G 66 [pstr s] [] (fun res H => res = pbool (plainB s) ∧ H = []) := by
  (refine PCalls_f Tryd.func66 rfl Tryd.ntmps66 Tryd.results66 (by simp) fun fin hfin => ?_; have hnm : True := trivial; simp (maxSteps := 2000000) (disch := omega) only [evb, evd, eve, constPV, seqK, blockK, scopeK, pbound, pelems, PV.mem?, PV.one, PV.cells, peqs, peq1, pkeys, pkeyt, List.set, Value.cells, ↓popG_eq, ↓pop.eq_1, ↓List.getElem?_map, ↓List.getElem?_cons_zero, ↓List.getElem?_cons_succ, Value.oneCell', Nat.reduceAdd, Nat.reduceMul, Nat.reduceSub, Nat.reduceLeDiff, Nat.reduceEqDiff, ↓reduceIte, ne_eq, reduceCtorEq, forall_const, exists_and_left, exists_eq_left', eq_self, Nat.reduceLT, Int.reduceLT, Int.reduceLE, Int.reduceToNat, Int.reduceAdd, Int.reduceSub, Int.reduceNeg, hnm, Tryd.tf3, Tryd.tf4, Tryd.tf5, Tryd.tf9, Tryd.call74])
  repeat' (first
    | (with_reducible apply W_seq_k; intro nx hnx)
    | (with_reducible first | apply W_block | apply W_scope)
    | (with_reducible refine W_prune 13 ?_; simp only [prb, Nat.reducePow, Nat.reduceDiv, Nat.reduceMod, Nat.reduceBEq]; with_reducible apply W_region_l)
    | ((first | (with_reducible apply WL_op; intro nx hnx) | with_reducible refine Ev_out ?_); try (simp (maxSteps := 2000000) (disch := omega) only [evb, evd, eve, constPV, seqK, blockK, scopeK, pbound, pelems, PV.mem?, PV.one, PV.cells, peqs, peq1, pkeys, pkeyt, List.set, Value.cells, ↓popG_eq, ↓pop.eq_1, ↓List.getElem?_map, ↓List.getElem?_cons_zero, ↓List.getElem?_cons_succ, Value.oneCell', Nat.reduceAdd, Nat.reduceMul, Nat.reduceSub, Nat.reduceLeDiff, Nat.reduceEqDiff, ↓reduceIte, ne_eq, reduceCtorEq, forall_const, exists_and_left, exists_eq_left', eq_self, Nat.reduceLT, Int.reduceLT, Int.reduceLE, Int.reduceToNat, Int.reduceAdd, Int.reduceSub, Int.reduceNeg, hnm, Tryd.tf3, Tryd.tf4, Tryd.tf5, Tryd.tf9, Tryd.call74]); repeat (refine And.intro (by omega) ?_))
    | ((with_reducible first | apply WL_nil | apply W_label | apply W_skip | apply W_exit | apply W_ret); try simp only [seqK, blockK, scopeK, ↓reduceIte, Nat.reduceEqDiff])
    | (with_reducible apply pguard_intro <;> (intro hc; (try simp only [hcb, reduceCtorEq, forall_const, ne_eq] at hc); first | (exfalso; omega) | (exfalso; exact hc trivial) | refine Ev_in ?_))
    | (with_reducible apply W_cond_k; intro _ _ ea eb; (simp only [condK, cob, opnd, constPV, Nat.reduceEqDiff, Nat.reduceLT, ↓reduceIte, hcb, reduceCtorEq, forall_const, ne_eq]); subst ea eb; first | (refine ⟨fun hc => ?_, fun hc => ?_⟩ <;> first | (exfalso; omega) | (exfalso; exact hc trivial) | skip) | skip)
    | (with_reducible apply hnx; clear hnx nx)
    | (with_reducible refine And.intro (by omega) ?_)
    | (with_reducible refine And.intro ?_ ?_)
    | (clear hnx nx; with_reducible apply hnx; clear hnx nx)
    | (clear hnx nx; clear hnx nx; with_reducible apply hnx; clear hnx nx))
  refine W_loop_k (fun z τ => ∃ i : Nat, i ≤ s.length ∧ z = s.length - i ∧ plainB s = ((s.drop i).all okB && (decide (1 ≤ s.length) && decide (s.length ≤ 4))) ∧ τ = ⟨fr 22 [(3, pn i), (0, pstr s)], []⟩) s.length
    ⟨fr 22 [(3, pn 0), (0, pstr s)], []⟩ (by
    exact Wk_fr (by simp only [wkb, Nat.reduceEqDiff, Nat.reduceLT, ↓reduceIte, pn]) (Sub_nil _)) ⟨0, by omega, by omega, rfl, rfl⟩ ?_
  rintro z τ ⟨i, hi, rfl, hp, rfl⟩ lp hlp
  by_cases hil : i < s.length
  · rw [List.drop_eq_getElem_cons hil, List.all_cons, Bool.and_assoc] at hp
    have hget : s.getD i 0 = s[i] := by rw [List.getD_eq_getElem?_getD, List.getElem?_eq_getElem hil]; rfl
    have c1 := reserved_c G s[i]
    generalize s[i] = c at *
    cases hok : okB c with
    | true =>
      rw [hok] at c1 hp
      repeat' (first
    | (with_reducible apply W_seq_k; intro nx hnx)
    | (with_reducible first | apply W_block | apply W_scope)
    | (with_reducible refine W_prune 13 ?_; simp only [prb, Nat.reducePow, Nat.reduceDiv, Nat.reduceMod, Nat.reduceBEq]; with_reducible apply W_region_l)
    | ((first | (with_reducible apply WL_op; intro nx hnx) | with_reducible refine Ev_out ?_); try (simp (maxSteps := 2000000) (disch := omega) only [evb, evd, eve, constPV, seqK, blockK, scopeK, pbound, pelems, PV.mem?, PV.one, PV.cells, peqs, peq1, pkeys, pkeyt, List.set, Value.cells, ↓popG_eq, ↓pop.eq_1, ↓List.getElem?_map, ↓List.getElem?_cons_zero, ↓List.getElem?_cons_succ, Value.oneCell', Nat.reduceAdd, Nat.reduceMul, Nat.reduceSub, Nat.reduceLeDiff, Nat.reduceEqDiff, ↓reduceIte, ne_eq, reduceCtorEq, forall_const, exists_and_left, exists_eq_left', eq_self, Nat.reduceLT, Int.reduceLT, Int.reduceLE, Int.reduceToNat, Int.reduceAdd, Int.reduceSub, Int.reduceNeg, hnm, Tryd.tf3, Tryd.tf4, Tryd.tf5, Tryd.tf9, Tryd.call74, hget]); repeat (refine And.intro (by omega) ?_))
    | ((with_reducible first | apply WL_nil | apply W_label | apply W_skip | apply W_exit | apply W_ret); try simp only [seqK, blockK, scopeK, ↓reduceIte, Nat.reduceEqDiff])
    | (with_reducible apply pguard_intro <;> (intro hc; (try simp only [hcb, reduceCtorEq, forall_const, ne_eq] at hc); first | (exfalso; omega) | (exfalso; exact hc trivial) | refine Ev_in ?_))
    | (with_reducible apply W_cond_k; intro _ _ ea eb; (simp only [condK, cob, opnd, constPV, Nat.reduceEqDiff, Nat.reduceLT, ↓reduceIte, hcb, reduceCtorEq, forall_const, ne_eq]); subst ea eb; first | (refine ⟨fun hc => ?_, fun hc => ?_⟩ <;> first | (exfalso; omega) | (exfalso; exact hc trivial) | skip) | skip)
    | (with_reducible apply hnx; clear hnx nx)
    | (with_reducible refine And.intro (by omega) ?_)
    | (with_reducible refine And.intro ?_ ?_)
    | (with_reducible refine pcall_k (c1) ?_; rintro _ _ ⟨rfl, rfl⟩ -; refine Ev_in ?_)
    | (clear hnx nx; with_reducible apply hnx; clear hnx nx)
    | (clear hnx nx; clear hnx nx; with_reducible apply hnx; clear hnx nx))
      all_goals first
        | exact absurd trivial hc
        | exact fun h => False.elim h
        | (exfalso
           omega)
        | skip
      all_goals
        refine hlp _ (s.length - (i + 1)) _ (by omega) ?_ ⟨i + 1, by omega, rfl, by rw [hp, Bool.true_and], rfl⟩
        exact Wk_fr (by simp only [wkb, Nat.reduceEqDiff, Nat.reduceLT, ↓reduceIte, pn]) (Sub_nil _)
    | false =>
      rw [hok] at c1 hp
      repeat' (first
    | (with_reducible apply W_seq_k; intro nx hnx)
    | (with_reducible first | apply W_block | apply W_scope)
    | (with_reducible refine W_prune 13 ?_; simp only [prb, Nat.reducePow, Nat.reduceDiv, Nat.reduceMod, Nat.reduceBEq]; with_reducible apply W_region_l)
    | ((first | (with_reducible apply WL_op; intro nx hnx) | with_reducible refine Ev_out ?_); try (simp (maxSteps := 2000000) (disch := omega) only [evb, evd, eve, constPV, seqK, blockK, scopeK, pbound, pelems, PV.mem?, PV.one, PV.cells, peqs, peq1, pkeys, pkeyt, List.set, Value.cells, ↓popG_eq, ↓pop.eq_1, ↓List.getElem?_map, ↓List.getElem?_cons_zero, ↓List.getElem?_cons_succ, Value.oneCell', Nat.reduceAdd, Nat.reduceMul, Nat.reduceSub, Nat.reduceLeDiff, Nat.reduceEqDiff, ↓reduceIte, ne_eq, reduceCtorEq, forall_const, exists_and_left, exists_eq_left', eq_self, Nat.reduceLT, Int.reduceLT, Int.reduceLE, Int.reduceToNat, Int.reduceAdd, Int.reduceSub, Int.reduceNeg, hnm, Tryd.tf3, Tryd.tf4, Tryd.tf5, Tryd.tf9, Tryd.call74, hget]); repeat (refine And.intro (by omega) ?_))
    | ((with_reducible first | apply WL_nil | apply W_label | apply W_skip | apply W_exit | apply W_ret); try simp only [seqK, blockK, scopeK, ↓reduceIte, Nat.reduceEqDiff])
    | (with_reducible apply pguard_intro <;> (intro hc; (try simp only [hcb, reduceCtorEq, forall_const, ne_eq] at hc); first | (exfalso; omega) | (exfalso; exact hc trivial) | refine Ev_in ?_))
    | (with_reducible apply W_cond_k; intro _ _ ea eb; (simp only [condK, cob, opnd, constPV, Nat.reduceEqDiff, Nat.reduceLT, ↓reduceIte, hcb, reduceCtorEq, forall_const, ne_eq]); subst ea eb; first | (refine ⟨fun hc => ?_, fun hc => ?_⟩ <;> first | (exfalso; omega) | (exfalso; exact hc trivial) | skip) | skip)
    | (with_reducible apply hnx; clear hnx nx)
    | (with_reducible refine And.intro (by omega) ?_)
    | (with_reducible refine And.intro ?_ ?_)
    | (with_reducible refine pcall_k (c1) ?_; rintro _ _ ⟨rfl, rfl⟩ -; refine Ev_in ?_)
    | (clear hnx nx; with_reducible apply hnx; clear hnx nx)
    | (clear hnx nx; clear hnx nx; with_reducible apply hnx; clear hnx nx))
      all_goals first
        | exact absurd trivial hc
        | exact fun h => False.elim h
        | (exfalso
           omega)
        | skip
      all_goals
        refine hfin _ _ (Fin_ret1 rfl (Sub_nil _) ?_); simp only [List.getD_cons_zero, List.getD_cons_succ, fr_getD_cons, fr_getD_nil, Nat.reduceEqDiff, Nat.reduceLT, ↓reduceIte]
        exact ⟨by rw [hp]; rfl, by trivial⟩
  · have hi2 : i = s.length := by omega
    subst hi2
    rw [List.drop_length] at hp
    repeat' (first
    | (with_reducible apply W_seq_k; intro nx hnx)
    | (with_reducible first | apply W_block | apply W_scope)
    | (with_reducible refine W_prune 13 ?_; simp only [prb, Nat.reducePow, Nat.reduceDiv, Nat.reduceMod, Nat.reduceBEq]; with_reducible apply W_region_l)
    | ((first | (with_reducible apply WL_op; intro nx hnx) | with_reducible refine Ev_out ?_); try (simp (maxSteps := 2000000) (disch := omega) only [evb, evd, eve, constPV, seqK, blockK, scopeK, pbound, pelems, PV.mem?, PV.one, PV.cells, peqs, peq1, pkeys, pkeyt, List.set, Value.cells, ↓popG_eq, ↓pop.eq_1, ↓List.getElem?_map, ↓List.getElem?_cons_zero, ↓List.getElem?_cons_succ, Value.oneCell', Nat.reduceAdd, Nat.reduceMul, Nat.reduceSub, Nat.reduceLeDiff, Nat.reduceEqDiff, ↓reduceIte, ne_eq, reduceCtorEq, forall_const, exists_and_left, exists_eq_left', eq_self, Nat.reduceLT, Int.reduceLT, Int.reduceLE, Int.reduceToNat, Int.reduceAdd, Int.reduceSub, Int.reduceNeg, hnm, Tryd.tf3, Tryd.tf4, Tryd.tf5, Tryd.tf9, Tryd.call74]); repeat (refine And.intro (by omega) ?_))
    | ((with_reducible first | apply WL_nil | apply W_label | apply W_skip | apply W_exit | apply W_ret); try simp only [seqK, blockK, scopeK, ↓reduceIte, Nat.reduceEqDiff])
    | (with_reducible apply pguard_intro <;> (intro hc; (try simp only [hcb, reduceCtorEq, forall_const, ne_eq] at hc); first | (exfalso; omega) | (exfalso; exact hc trivial) | refine Ev_in ?_))
    | (with_reducible apply W_cond_k; intro _ _ ea eb; (simp only [condK, cob, opnd, constPV, Nat.reduceEqDiff, Nat.reduceLT, ↓reduceIte, hcb, reduceCtorEq, forall_const, ne_eq]); subst ea eb; first | (refine ⟨fun hc => ?_, fun hc => ?_⟩ <;> first | (exfalso; omega) | (exfalso; exact hc trivial) | skip) | skip)
    | (with_reducible apply hnx; clear hnx nx)
    | (with_reducible refine And.intro (by omega) ?_)
    | (with_reducible refine And.intro ?_ ?_)
    | (clear hnx nx; with_reducible apply hnx; clear hnx nx)
    | (clear hnx nx; clear hnx nx; with_reducible apply hnx; clear hnx nx))
    all_goals first
      | exact absurd trivial hc
      | exact fun h => False.elim h
      | (exfalso
         omega)
      | skip
    all_goals
      refine hfin _ _ (Fin_ret1 rfl (Sub_nil _) ?_); simp only [List.getD_cons_zero, List.getD_cons_succ, fr_getD_cons, fr_getD_nil, Nat.reduceEqDiff, Nat.reduceLT, ↓reduceIte]
      refine ⟨?_, by trivial⟩
      rw [hp]
      cases s with
      | nil => simp_all
      | cons x r =>
        first
          | (simp_all; done)
          | (simp_all
             omega)
end Go.PM

namespace Go.PM
open Go.Proofs
attribute [local irreducible] W PCalls pcall pcallI WL
set_option maxRecDepth 100000
set_option maxHeartbeats 8000000
theorem nodup_snoc {l : List (List UInt8)} {x : List UInt8} (h : l.Nodup) (hx : x ∉ l) : (l ++ [x]).Nodup := by
  rw [List.nodup_append]
  refine ⟨h, by simp, fun y hy z hz e => ?_⟩
  simp only [List.mem_singleton] at hz
  subst hz
  exact hx (e ▸ hy)
theorem not_nodup {l : List (List UInt8)} {i k : Nat} (hk : k < i) (hi : i < l.length) (e : l[k] = l[i]) : ¬ l.Nodup := by
  intro h
  have := (List.getElem_inj h).1 e
  omega
theorem rvalid_c (G : Globs) (a : List Ltr) (ha : HA a) : PCalls Tryd.prog G 44 [ltsP a] [] (fun res H => res = pbool (validF a) ∧ H = []) := by
  obtain ⟨ha1, ha2⟩ := ha
  (refine PCalls_f Tryd.func44 rfl Tryd.ntmps44 Tryd.results44 (by simp) fun fin hfin => ?_; have hnm : True := trivial; simp (maxSteps := 2000000) (disch := omega) only [evb, evd, eve, constPV, seqK, blockK, scopeK, pbound, pelems, PV.mem?, PV.one, PV.cells, peqs, peq1, pkeys, pkeyt, List.set, Value.cells, ↓popG_eq, ↓pop.eq_1, ↓List.getElem?_map, ↓List.getElem?_cons_zero, ↓List.getElem?_cons_succ, Value.oneCell', Nat.reduceAdd, Nat.reduceMul, Nat.reduceSub, Nat.reduceLeDiff, Nat.reduceEqDiff, ↓reduceIte, ne_eq, reduceCtorEq, forall_const, exists_and_left, exists_eq_left', eq_self, Nat.reduceLT, Int.reduceLT, Int.reduceLE, Int.reduceToNat, Int.reduceAdd, Int.reduceSub, Int.reduceNeg, hnm, Tryd.tf0, Tryd.tf1, Tryd.tf2, Tryd.tf3, Tryd.tf4, Tryd.tf9, Tryd.tf23, Tryd.tf60, Tryd.call66])
  repeat' (first
    | (with_reducible apply W_seq_k; intro nx hnx)
    | (with_reducible first | apply W_block | apply W_scope)
    | (with_reducible refine W_prune 61 ?_; simp only [prb, Nat.reducePow, Nat.reduceDiv, Nat.reduceMod, Nat.reduceBEq]; first | (with_reducible apply W_region_l) | with_reducible refine W_region_draw (id := 7) 2 (.op 0 true (.op 1 true (.op 2 false (.op 3 true (.op 4 true (.op 5 true (.op 6 true (.op 7 true (.op 8 true (.op 9 true (.op 10 true (.op 11 true (.op 12 true (.op 13 true (.op 14 true (.op 15 true (.op 16 true (.op 17 true (.op 18 true (.op 19 true (.op 20 true (.op 21 true (.op 22 true (.op 23 true (.op 24 true (.op 25 true (.op 26 true (.op 27 true (.op 28 true (.op 29 true (.op 30 true (.op 31 true (.op 32 true (.op 33 true (.op 34 true (.op 35 true (.op 36 true (.op 37 true (.op 38 true (.op 39 true (.op 40 true (.op 41 true (.op 42 true (.op 43 true (.op 44 true (.op 45 true (.op 46 true (.op 47 true (.op 48 true (.op 49 true (.op 50 true (.op 51 true (.op 52 true (.op 53 true (.op 54 true (.op 55 true (.op 56 true (.done)))))))))))))))))))))))))))))))))))))))))))))))))))))))))) (by kernel_rfl) ?_ | with_reducible refine W_region_draw (id := 14) 1 (.op 0 true (.op 1 true (.op 2 true (.op 3 true (.op 4 true (.op 5 true (.op 6 true (.op 7 true (.done))))))))) (by kernel_rfl) ?_)
    | ((first | (with_reducible apply WL_op; intro nx hnx) | with_reducible refine Ev_out ?_ | (with_reducible apply popsD_op; intro nx hnx) | (with_reducible refine popsD_alt ?_ ?_; intro nx hnx) | (with_reducible refine pfresh_k hnm fun nm hnm => ?_; (try simp only [fmb] at hnm)) | (with_reducible refine pborn_mu hnm fun nm hnm => ?_; (try simp only [fmb] at hnm))); try (simp (maxSteps := 2000000) (disch := omega) only [evb, evd, eve, constPV, seqK, blockK, scopeK, pbound, pelems, PV.mem?, PV.one, PV.cells, peqs, peq1, pkeys, pkeyt, List.set, Value.cells, ↓popG_eq, ↓pop.eq_1, ↓List.getElem?_map, ↓List.getElem?_cons_zero, ↓List.getElem?_cons_succ, Value.oneCell', Nat.reduceAdd, Nat.reduceMul, Nat.reduceSub, Nat.reduceLeDiff, Nat.reduceEqDiff, ↓reduceIte, ne_eq, reduceCtorEq, forall_const, exists_and_left, exists_eq_left', eq_self, Nat.reduceLT, Int.reduceLT, Int.reduceLE, Int.reduceToNat, Int.reduceAdd, Int.reduceSub, Int.reduceNeg, hnm, Tryd.tf0, Tryd.tf1, Tryd.tf2, Tryd.tf3, Tryd.tf4, Tryd.tf9, Tryd.tf23, Tryd.tf60, Tryd.call66]); repeat (refine And.intro (by omega) ?_))
    | ((with_reducible first | apply WL_nil | apply W_label | apply W_skip | apply W_exit | apply W_ret | apply popsD_done); try simp only [seqK, blockK, scopeK, ↓reduceIte, Nat.reduceEqDiff])
    | with_reducible exact popsD_stop
    | (with_reducible apply pguard_intro <;> (intro hc; (try simp only [hcb, reduceCtorEq, forall_const, ne_eq] at hc); first | (exfalso; omega) | (exfalso; exact hc trivial) | refine Ev_in ?_))
    | (with_reducible apply W_cond_k; intro _ _ ea eb; (simp only [condK, cob, opnd, constPV, Nat.reduceEqDiff, Nat.reduceLT, ↓reduceIte, hcb, reduceCtorEq, forall_const, ne_eq]); subst ea eb; first | (refine ⟨fun hc => ?_, fun hc => ?_⟩ <;> first | (exfalso; omega) | (exfalso; exact hc trivial) | skip) | skip)
    | (with_reducible apply hnx; clear hnx nx)
    | (with_reducible refine And.intro (by omega) ?_)
    | (with_reducible refine And.intro ?_ ?_)
    | (clear hnx nx; with_reducible apply hnx; clear hnx nx)
    | (clear hnx nx; clear hnx nx; with_reducible apply hnx; clear hnx nx))
  all_goals first
    | exact absurd trivial hc
    | exact fun h => False.elim h
    | (exfalso
       omega)
    | skip
  all_goals first
    | (refine hfin _ _ (Fin_ret1 rfl (Sub_nil _) ?_); simp only [List.getD_cons_zero, List.getD_cons_succ, fr_getD_cons, fr_getD_nil, Nat.reduceEqDiff, Nat.reduceLT, ↓reduceIte]
       refine ⟨?_, by trivial⟩
       have h1 : ¬ (1 ≤ a.length ∧ a.length ≤ 60) := by omega
       by_cases h2 : 1 ≤ a.length
       · have h3 : ¬ a.length ≤ 60 := fun h => h1 ⟨h2, h⟩
         simp [validF, h3]
       · simp [validF, h2])
    | skip
  have hlen : 1 ≤ a.length ∧ a.length ≤ 60 := by omega
  have htl : (texts a).length = a.length := by simp [texts]
  refine W_loop_k (fun z τ => ∃ i : Nat, i ≤ a.length ∧ z = a.length - i ∧ okFrom a 0 = okFrom a i ∧ ((texts a).take i).Nodup ∧ τ = ⟨fr 108 [(3, pn i), (0, ltsP a)], []⟩) a.length
    ⟨fr 108 [(3, pn 0), (0, ltsP a)], []⟩ (by
    exact Wk_fr (by simp only [wkb, Nat.reduceEqDiff, Nat.reduceLT, ↓reduceIte, pn]) (Sub_nil _)) ⟨0, by omega, by omega, rfl, by simp, rfl⟩ ?_
  rintro z τ ⟨i, hi, rfl, hok, hnd, rfl⟩ lp hlp
  by_cases hil : i < a.length
  · rw [okFrom_step hil] at hok
    obtain ⟨t1, t2, t3⟩ := ha2 a[i] (List.getElem_mem hil)
    have hget : a[i]? = some a[i] := List.getElem?_eq_getElem hil
    have c1 := rplain_c G a[i].text t1
    repeat' (first
    | (with_reducible apply W_seq_k; intro nx hnx)
    | (with_reducible first | apply W_block | apply W_scope)
    | (with_reducible refine W_prune 61 ?_; simp only [prb, Nat.reducePow, Nat.reduceDiv, Nat.reduceMod, Nat.reduceBEq]; first | (with_reducible apply W_region_l) | with_reducible refine W_region_draw (id := 7) 2 (.op 0 true (.op 1 true (.op 2 false (.op 3 true (.op 4 true (.op 5 true (.op 6 true (.op 7 true (.op 8 true (.op 9 true (.op 10 true (.op 11 true (.op 12 true (.op 13 true (.op 14 true (.op 15 true (.op 16 true (.op 17 true (.op 18 true (.op 19 true (.op 20 true (.op 21 true (.op 22 true (.op 23 true (.op 24 true (.op 25 true (.op 26 true (.op 27 true (.op 28 true (.op 29 true (.op 30 true (.op 31 true (.op 32 true (.op 33 true (.op 34 true (.op 35 true (.op 36 true (.op 37 true (.op 38 true (.op 39 true (.op 40 true (.op 41 true (.op 42 true (.op 43 true (.op 44 true (.op 45 true (.op 46 true (.op 47 true (.op 48 true (.op 49 true (.op 50 true (.op 51 true (.op 52 true (.op 53 true (.op 54 true (.op 55 true (.op 56 true (.done)))))))))))))))))))))))))))))))))))))))))))))))))))))))))) (by kernel_rfl) ?_ | with_reducible refine W_region_draw (id := 14) 1 (.op 0 true (.op 1 true (.op 2 true (.op 3 true (.op 4 true (.op 5 true (.op 6 true (.op 7 true (.done))))))))) (by kernel_rfl) ?_)
    | ((first | (with_reducible apply WL_op; intro nx hnx) | with_reducible refine Ev_out ?_ | (with_reducible apply popsD_op; intro nx hnx) | (with_reducible refine popsD_alt ?_ ?_; intro nx hnx) | (with_reducible refine pfresh_k hnm fun nm hnm => ?_; (try simp only [fmb] at hnm)) | (with_reducible refine pborn_mu hnm fun nm hnm => ?_; (try simp only [fmb] at hnm))); try (simp (maxSteps := 2000000) (disch := omega) only [evb, evd, eve, constPV, seqK, blockK, scopeK, pbound, pelems, PV.mem?, PV.one, PV.cells, peqs, peq1, pkeys, pkeyt, List.set, Value.cells, ↓popG_eq, ↓pop.eq_1, ↓List.getElem?_map, ↓List.getElem?_cons_zero, ↓List.getElem?_cons_succ, Value.oneCell', Nat.reduceAdd, Nat.reduceMul, Nat.reduceSub, Nat.reduceLeDiff, Nat.reduceEqDiff, ↓reduceIte, ne_eq, reduceCtorEq, forall_const, exists_and_left, exists_eq_left', eq_self, Nat.reduceLT, Int.reduceLT, Int.reduceLE, Int.reduceToNat, Int.reduceAdd, Int.reduceSub, Int.reduceNeg, hnm, Tryd.tf0, Tryd.tf1, Tryd.tf2, Tryd.tf3, Tryd.tf4, Tryd.tf9, Tryd.tf23, Tryd.tf60, Tryd.call66, hget]); repeat (refine And.intro (by omega) ?_))
    | ((with_reducible first | apply WL_nil | apply W_label | apply W_skip | apply W_exit | apply W_ret | apply popsD_done); try simp only [seqK, blockK, scopeK, ↓reduceIte, Nat.reduceEqDiff])
    | with_reducible exact popsD_stop
    | (with_reducible apply pguard_intro <;> (intro hc; (try simp only [hcb, reduceCtorEq, forall_const, ne_eq] at hc); first | (exfalso; omega) | (exfalso; exact hc trivial) | refine Ev_in ?_))
    | (with_reducible apply W_cond_k; intro _ _ ea eb; (simp only [condK, cob, opnd, constPV, Nat.reduceEqDiff, Nat.reduceLT, ↓reduceIte, hcb, reduceCtorEq, forall_const, ne_eq]); subst ea eb; first | (refine ⟨fun hc => ?_, fun hc => ?_⟩ <;> first | (exfalso; omega) | (exfalso; exact hc trivial) | skip) | skip)
    | (with_reducible apply hnx; clear hnx nx)
    | (with_reducible refine And.intro (by omega) ?_)
    | (with_reducible refine And.intro ?_ ?_)
    | (with_reducible refine pcall_k (c1) ?_; rintro _ _ ⟨rfl, rfl⟩ -; refine Ev_in ?_)
    | (clear hnx nx; with_reducible apply hnx; clear hnx nx)
    | (clear hnx nx; clear hnx nx; with_reducible apply hnx; clear hnx nx))
    all_goals first
      | exact absurd trivial hc
      | exact fun h => False.elim h
      | (exfalso
         omega)
      | skip
    all_goals first
      | (refine hfin _ _ (Fin_ret1 rfl (Sub_nil _) ?_); simp only [List.getD_cons_zero, List.getD_cons_succ, fr_getD_cons, fr_getD_nil, Nat.reduceEqDiff, Nat.reduceLT, ↓reduceIte]
         refine ⟨?_, by trivial⟩
         rw [validF_bad]
         rw [hok]
         cases hx2 : okLtr a i a[i] with
         | false => rfl
         | true =>
           exfalso
           obtain ⟨k1, k2, k3, k4, k5, k6, k7, k8, k9, k10, k11⟩ := okLtr_iff.1 hx2
           first
             | (simp_all; done)
             | (have hb : a[i].base.toNat < a.length := by omega
                have k4 := k4 hb
                omega))
      | skip
    all_goals
      have hx2 : okLtr a i a[i] = true := by
        rw [okLtr_iff]
        refine ⟨by first | assumption | simp_all, by omega, by omega, fun hb => by first | assumption | omega, by omega, by omega, by omega, by omega, by omega, by omega, by omega⟩
      rw [hx2, Bool.true_and] at hok
      generalize hlet : (⟨60, false, 0, [pstr a[i].text, pint .i64 a[i].base, pint .i64 a[i].mark, pint .i64 a[i].case_, pint .i64 a[i].width]⟩ : PObj) = lt
      refine W_loop_k (fun z τ => ∃ k : Nat, k ≤ i ∧ z = i - k ∧ a[i].text ∉ (texts a).take k ∧ τ = ⟨fr 108 [(5, pn k), (4, .ptr nm 0), (3, pn i), (0, ltsP a)], [(nm, lt)]⟩) i
        ⟨fr 108 [(5, pn 0), (4, .ptr nm 0), (3, pn i), (0, ltsP a)], [(nm, lt)]⟩ (by
        refine Wk_fr (by simp only [wkb, Nat.reduceEqDiff, Nat.reduceLT, ↓reduceIte, pn]) ?_
        exact Sub_refl (by simp [names])) ⟨0, by omega, by omega, by simp, rfl⟩ ?_
      subst hlet
      rintro z τ ⟨k, hk, rfl, hnin, rfl⟩ lp2 hlp2
      by_cases hki : k < i
      · have hgk : a[k]? = some (a[k]'(by omega)) := List.getElem?_eq_getElem (by omega)
        have htk : (texts a).take (k + 1) = (texts a).take k ++ [(a[k]'(by omega)).text] := by
          rw [List.take_add_one, List.getElem?_eq_getElem (by omega)]
          simp [texts]
        repeat' (first
    | (with_reducible apply W_seq_k; intro nx hnx)
    | (with_reducible first | apply W_block | apply W_scope)
    | (with_reducible refine W_prune 61 ?_; simp only [prb, Nat.reducePow, Nat.reduceDiv, Nat.reduceMod, Nat.reduceBEq]; first | (with_reducible apply W_region_l) | with_reducible refine W_region_draw (id := 7) 2 (.op 0 true (.op 1 true (.op 2 false (.op 3 true (.op 4 true (.op 5 true (.op 6 true (.op 7 true (.op 8 true (.op 9 true (.op 10 true (.op 11 true (.op 12 true (.op 13 true (.op 14 true (.op 15 true (.op 16 true (.op 17 true (.op 18 true (.op 19 true (.op 20 true (.op 21 true (.op 22 true (.op 23 true (.op 24 true (.op 25 true (.op 26 true (.op 27 true (.op 28 true (.op 29 true (.op 30 true (.op 31 true (.op 32 true (.op 33 true (.op 34 true (.op 35 true (.op 36 true (.op 37 true (.op 38 true (.op 39 true (.op 40 true (.op 41 true (.op 42 true (.op 43 true (.op 44 true (.op 45 true (.op 46 true (.op 47 true (.op 48 true (.op 49 true (.op 50 true (.op 51 true (.op 52 true (.op 53 true (.op 54 true (.op 55 true (.op 56 true (.done)))))))))))))))))))))))))))))))))))))))))))))))))))))))))) (by kernel_rfl) ?_ | with_reducible refine W_region_draw (id := 14) 1 (.op 0 true (.op 1 true (.op 2 true (.op 3 true (.op 4 true (.op 5 true (.op 6 true (.op 7 true (.done))))))))) (by kernel_rfl) ?_)
    | ((first | (with_reducible apply WL_op; intro nx hnx) | with_reducible refine Ev_out ?_ | (with_reducible apply popsD_op; intro nx hnx) | (with_reducible refine popsD_alt ?_ ?_; intro nx hnx) | (with_reducible refine pfresh_k hnm fun nm hnm => ?_; (try simp only [fmb] at hnm)) | (with_reducible refine pborn_mu hnm fun nm hnm => ?_; (try simp only [fmb] at hnm))); try (simp (maxSteps := 2000000) (disch := omega) only [evb, evd, eve, constPV, seqK, blockK, scopeK, pbound, pelems, PV.mem?, PV.one, PV.cells, peqs, peq1, pkeys, pkeyt, List.set, Value.cells, ↓popG_eq, ↓pop.eq_1, ↓List.getElem?_map, ↓List.getElem?_cons_zero, ↓List.getElem?_cons_succ, Value.oneCell', Nat.reduceAdd, Nat.reduceMul, Nat.reduceSub, Nat.reduceLeDiff, Nat.reduceEqDiff, ↓reduceIte, ne_eq, reduceCtorEq, forall_const, exists_and_left, exists_eq_left', eq_self, Nat.reduceLT, Int.reduceLT, Int.reduceLE, Int.reduceToNat, Int.reduceAdd, Int.reduceSub, Int.reduceNeg, hnm, Tryd.tf0, Tryd.tf1, Tryd.tf2, Tryd.tf3, Tryd.tf4, Tryd.tf9, Tryd.tf23, Tryd.tf60, Tryd.call66, hgk]); repeat (refine And.intro (by omega) ?_))
    | ((with_reducible first | apply WL_nil | apply W_label | apply W_skip | apply W_exit | apply W_ret | apply popsD_done); try simp only [seqK, blockK, scopeK, ↓reduceIte, Nat.reduceEqDiff])
    | with_reducible exact popsD_stop
    | (with_reducible apply pguard_intro <;> (intro hc; (try simp only [hcb, reduceCtorEq, forall_const, ne_eq] at hc); first | (exfalso; omega) | (exfalso; exact hc trivial) | refine Ev_in ?_))
    | (with_reducible apply W_cond_k; intro _ _ ea eb; (simp only [condK, cob, opnd, constPV, Nat.reduceEqDiff, Nat.reduceLT, ↓reduceIte, hcb, reduceCtorEq, forall_const, ne_eq]); subst ea eb; first | (refine ⟨fun hc => ?_, fun hc => ?_⟩ <;> first | (exfalso; omega) | (exfalso; exact hc trivial) | skip) | skip)
    | (with_reducible apply hnx; clear hnx nx)
    | (with_reducible refine And.intro (by omega) ?_)
    | (with_reducible refine And.intro ?_ ?_)
    | (clear hnx nx; with_reducible apply hnx; clear hnx nx)
    | (clear hnx nx; clear hnx nx; with_reducible apply hnx; clear hnx nx))
        all_goals first
          | exact absurd trivial hc
          | exact fun h => False.elim h
          | (exfalso
             omega)
          | skip
        all_goals first
          | (refine hfin _ _ (Fin_ret1 rfl (Sub_nil _) ?_); simp only [List.getD_cons_zero, List.getD_cons_succ, fr_getD_cons, fr_getD_nil, Nat.reduceEqDiff, Nat.reduceLT, ↓reduceIte]
             refine ⟨?_, by trivial⟩
             have hnn : ¬ (texts a).Nodup := not_nodup (k := k) (i := i) hki (by omega) (by simp only [texts, List.getElem_map]; exact hc)
             simp [validF, hnn])
          | (refine hlp2 _ (i - (k + 1)) _ (by omega) ?_ ⟨k + 1, by omega, rfl, ?_, rfl⟩
             · refine Wk_fr (by simp only [wkb, Nat.reduceEqDiff, Nat.reduceLT, ↓reduceIte, pn]) ?_
               exact Sub_refl (by simp [names])
             · rw [htk, List.mem_append, List.mem_singleton, not_or]
               exact ⟨hnin, fun e => hc e.symm⟩)
          | skip
        all_goals trace_state
      · have hki2 : k = i := by omega
        subst hki2
        repeat' (first
    | (with_reducible apply W_seq_k; intro nx hnx)
    | (with_reducible first | apply W_block | apply W_scope)
    | (with_reducible refine W_prune 61 ?_; simp only [prb, Nat.reducePow, Nat.reduceDiv, Nat.reduceMod, Nat.reduceBEq]; first | (with_reducible apply W_region_l) | with_reducible refine W_region_draw (id := 7) 2 (.op 0 true (.op 1 true (.op 2 false (.op 3 true (.op 4 true (.op 5 true (.op 6 true (.op 7 true (.op 8 true (.op 9 true (.op 10 true (.op 11 true (.op 12 true (.op 13 true (.op 14 true (.op 15 true (.op 16 true (.op 17 true (.op 18 true (.op 19 true (.op 20 true (.op 21 true (.op 22 true (.op 23 true (.op 24 true (.op 25 true (.op 26 true (.op 27 true (.op 28 true (.op 29 true (.op 30 true (.op 31 true (.op 32 true (.op 33 true (.op 34 true (.op 35 true (.op 36 true (.op 37 true (.op 38 true (.op 39 true (.op 40 true (.op 41 true (.op 42 true (.op 43 true (.op 44 true (.op 45 true (.op 46 true (.op 47 true (.op 48 true (.op 49 true (.op 50 true (.op 51 true (.op 52 true (.op 53 true (.op 54 true (.op 55 true (.op 56 true (.done)))))))))))))))))))))))))))))))))))))))))))))))))))))))))) (by kernel_rfl) ?_ | with_reducible refine W_region_draw (id := 14) 1 (.op 0 true (.op 1 true (.op 2 true (.op 3 true (.op 4 true (.op 5 true (.op 6 true (.op 7 true (.done))))))))) (by kernel_rfl) ?_)
    | ((first | (with_reducible apply WL_op; intro nx hnx) | with_reducible refine Ev_out ?_ | (with_reducible apply popsD_op; intro nx hnx) | (with_reducible refine popsD_alt ?_ ?_; intro nx hnx) | (with_reducible refine pfresh_k hnm fun nm hnm => ?_; (try simp only [fmb] at hnm)) | (with_reducible refine pborn_mu hnm fun nm hnm => ?_; (try simp only [fmb] at hnm))); try (simp (maxSteps := 2000000) (disch := omega) only [evb, evd, eve, constPV, seqK, blockK, scopeK, pbound, pelems, PV.mem?, PV.one, PV.cells, peqs, peq1, pkeys, pkeyt, List.set, Value.cells, ↓popG_eq, ↓pop.eq_1, ↓List.getElem?_map, ↓List.getElem?_cons_zero, ↓List.getElem?_cons_succ, Value.oneCell', Nat.reduceAdd, Nat.reduceMul, Nat.reduceSub, Nat.reduceLeDiff, Nat.reduceEqDiff, ↓reduceIte, ne_eq, reduceCtorEq, forall_const, exists_and_left, exists_eq_left', eq_self, Nat.reduceLT, Int.reduceLT, Int.reduceLE, Int.reduceToNat, Int.reduceAdd, Int.reduceSub, Int.reduceNeg, hnm, Tryd.tf0, Tryd.tf1, Tryd.tf2, Tryd.tf3, Tryd.tf4, Tryd.tf9, Tryd.tf23, Tryd.tf60, Tryd.call66]); repeat (refine And.intro (by omega) ?_))
    | ((with_reducible first | apply WL_nil | apply W_label | apply W_skip | apply W_exit | apply W_ret | apply popsD_done); try simp only [seqK, blockK, scopeK, ↓reduceIte, Nat.reduceEqDiff])
    | with_reducible exact popsD_stop
    | (with_reducible apply pguard_intro <;> (intro hc; (try simp only [hcb, reduceCtorEq, forall_const, ne_eq] at hc); first | (exfalso; omega) | (exfalso; exact hc trivial) | refine Ev_in ?_))
    | (with_reducible apply W_cond_k; intro _ _ ea eb; (simp only [condK, cob, opnd, constPV, Nat.reduceEqDiff, Nat.reduceLT, ↓reduceIte, hcb, reduceCtorEq, forall_const, ne_eq]); subst ea eb; first | (refine ⟨fun hc => ?_, fun hc => ?_⟩ <;> first | (exfalso; omega) | (exfalso; exact hc trivial) | skip) | skip)
    | (with_reducible apply hnx; clear hnx nx)
    | (with_reducible refine And.intro (by omega) ?_)
    | (with_reducible refine And.intro ?_ ?_)
    | (clear hnx nx; with_reducible apply hnx; clear hnx nx)
    | (clear hnx nx; clear hnx nx; with_reducible apply hnx; clear hnx nx))
        all_goals first
          | exact absurd trivial hc
          | exact fun h => False.elim h
          | (exfalso
             omega)
          | skip
        all_goals
          refine hlp _ (a.length - (k + 1)) _ (by omega) ?_ ⟨k + 1, by omega, rfl, hok, ?_, rfl⟩
          · refine Wk_fr (by simp only [wkb, Nat.reduceEqDiff, Nat.reduceLT, ↓reduceIte, pn]) ?_
            exact Sub_nil _
          · rw [List.take_add_one, List.getElem?_eq_getElem (by omega)]
            exact nodup_snoc hnd (by simpa [texts] using hnin)
  · have hi2 : i = a.length := by omega
    subst hi2
    rw [okFrom_end] at hok
    rw [List.take_of_length_le (by omega)] at hnd
    repeat' (first
    | (with_reducible apply W_seq_k; intro nx hnx)
    | (with_reducible first | apply W_block | apply W_scope)
    | (with_reducible refine W_prune 61 ?_; simp only [prb, Nat.reducePow, Nat.reduceDiv, Nat.reduceMod, Nat.reduceBEq]; first | (with_reducible apply W_region_l) | with_reducible refine W_region_draw (id := 7) 2 (.op 0 true (.op 1 true (.op 2 false (.op 3 true (.op 4 true (.op 5 true (.op 6 true (.op 7 true (.op 8 true (.op 9 true (.op 10 true (.op 11 true (.op 12 true (.op 13 true (.op 14 true (.op 15 true (.op 16 true (.op 17 true (.op 18 true (.op 19 true (.op 20 true (.op 21 true (.op 22 true (.op 23 true (.op 24 true (.op 25 true (.op 26 true (.op 27 true (.op 28 true (.op 29 true (.op 30 true (.op 31 true (.op 32 true (.op 33 true (.op 34 true (.op 35 true (.op 36 true (.op 37 true (.op 38 true (.op 39 true (.op 40 true (.op 41 true (.op 42 true (.op 43 true (.op 44 true (.op 45 true (.op 46 true (.op 47 true (.op 48 true (.op 49 true (.op 50 true (.op 51 true (.op 52 true (.op 53 true (.op 54 true (.op 55 true (.op 56 true (.done)))))))))))))))))))))))))))))))))))))))))))))))))))))))))) (by kernel_rfl) ?_ | with_reducible refine W_region_draw (id := 14) 1 (.op 0 true (.op 1 true (.op 2 true (.op 3 true (.op 4 true (.op 5 true (.op 6 true (.op 7 true (.done))))))))) (by kernel_rfl) ?_)
    | ((first | (with_reducible apply WL_op; intro nx hnx) | with_reducible refine Ev_out ?_ | (with_reducible apply popsD_op; intro nx hnx) | (with_reducible refine popsD_alt ?_ ?_; intro nx hnx) | (with_reducible refine pfresh_k hnm fun nm hnm => ?_; (try simp only [fmb] at hnm)) | (with_reducible refine pborn_mu hnm fun nm hnm => ?_; (try simp only [fmb] at hnm))); try (simp (maxSteps := 2000000) (disch := omega) only [evb, evd, eve, constPV, seqK, blockK, scopeK, pbound, pelems, PV.mem?, PV.one, PV.cells, peqs, peq1, pkeys, pkeyt, List.set, Value.cells, ↓popG_eq, ↓pop.eq_1, ↓List.getElem?_map, ↓List.getElem?_cons_zero, ↓List.getElem?_cons_succ, Value.oneCell', Nat.reduceAdd, Nat.reduceMul, Nat.reduceSub, Nat.reduceLeDiff, Nat.reduceEqDiff, ↓reduceIte, ne_eq, reduceCtorEq, forall_const, exists_and_left, exists_eq_left', eq_self, Nat.reduceLT, Int.reduceLT, Int.reduceLE, Int.reduceToNat, Int.reduceAdd, Int.reduceSub, Int.reduceNeg, hnm, Tryd.tf0, Tryd.tf1, Tryd.tf2, Tryd.tf3, Tryd.tf4, Tryd.tf9, Tryd.tf23, Tryd.tf60, Tryd.call66]); repeat (refine And.intro (by omega) ?_))
    | ((with_reducible first | apply WL_nil | apply W_label | apply W_skip | apply W_exit | apply W_ret | apply popsD_done); try simp only [seqK, blockK, scopeK, ↓reduceIte, Nat.reduceEqDiff])
    | with_reducible exact popsD_stop
    | (with_reducible apply pguard_intro <;> (intro hc; (try simp only [hcb, reduceCtorEq, forall_const, ne_eq] at hc); first | (exfalso; omega) | (exfalso; exact hc trivial) | refine Ev_in ?_))
    | (with_reducible apply W_cond_k; intro _ _ ea eb; (simp only [condK, cob, opnd, constPV, Nat.reduceEqDiff, Nat.reduceLT, ↓reduceIte, hcb, reduceCtorEq, forall_const, ne_eq]); subst ea eb; first | (refine ⟨fun hc => ?_, fun hc => ?_⟩ <;> first | (exfalso; omega) | (exfalso; exact hc trivial) | skip) | skip)
    | (with_reducible apply hnx; clear hnx nx)
    | (with_reducible refine And.intro (by omega) ?_)
    | (with_reducible refine And.intro ?_ ?_)
    | (clear hnx nx; with_reducible apply hnx; clear hnx nx)
    | (clear hnx nx; clear hnx nx; with_reducible apply hnx; clear hnx nx))
    all_goals first
      | exact absurd trivial hc
      | exact fun h => False.elim h
      | (exfalso
         omega)
      | skip
    all_goals
      refine hfin _ _ (Fin_ret1 rfl (Sub_nil _) ?_); simp only [List.getD_cons_zero, List.getD_cons_succ, fr_getD_cons, fr_getD_nil, Nat.reduceEqDiff, Nat.reduceLT, ↓reduceIte]
      refine ⟨?_, by trivial⟩
      simp [validF, hok, hnd, hlen]
end Go.PM

namespace Go.PM
open Go.Proofs
theorem valid_txt {a : List Ltr} (h : validF a = true) : ∀ x ∈ a, x.text.length ≤ 65536 := by
  intro x hx
  obtain ⟨j, hj, rfl⟩ := List.getElem_of_mem hx
  have := (valid_text h hj).2
  omega
attribute [local irreducible] W PCalls pcall pcallI WL
set_option maxRecDepth 100000
set_option maxHeartbeats 8000000
theorem rmeasure_f (G : Globs) (a : List Ltr) (f : Font) (s : List UInt8) (bold : Bool) (ha : HA a) (hax : ∀ x ∈ a, x.text.length ≤ 65536) (hw : ∀ x ∈ a, 0 ≤ x.width ∧ x.width ≤ 1000) (hf : HF f) (hok : okFont f = true) (hsl : (s.length : Int) ≤ 9223372036854775807) :
    PCalls Tryd.prog G 45 [ltsP a, foP f, pstr s, pbool bold] [] (fun res H => res = .tuple [eP (measF a f s bold).1, uP (measF a f s bold).1, pint .i64 (measF a f s bold).2] ∧ H = []) := mres_f (rmeasure_r G a f s bold ha hax hw hf hok hsl)
end Go.PM

namespace Go.PM
open Go.Proofs
attribute [local irreducible] W PCalls pcall pcallI WL
def decF (n : Nat) : List UInt8 := if n < 10 then [UInt8.ofNat (48 + n)] else decF (n / 10) ++ [UInt8.ofNat (48 + n % 10)]
theorem decF_lt {n : Nat} (h : n < 10) : decF n = [UInt8.ofNat (48 + n)] := by
  rw [decF, if_pos h]
theorem decF_ge {n : Nat} (h : ¬ n < 10) : decF n = decF (n / 10) ++ [UInt8.ofNat (48 + n % 10)] := by
  rw [decF, if_neg h]
theorem dec_lib : ∀ n : Nat, Lib.decDigits n = decF n
  | n => by
    rw [Lib.decDigits]
    split
    · rename_i h
      rw [decF_lt h]
    · rename_i h
      rw [decF_ge h, dec_lib (n / 10)]
theorem wr8u (x : Int) (h0 : 0 ≤ x) (h1 : x < 256) : IntKind.u8.wrap x = x := by
  simp [IntKind.wrap, IntKind.bits, IntKind.signed]
  omega
theorem decF_low : ∀ (k n : Nat), n < 10 ^ (k + 1) → 1 ≤ (decF n).length ∧ (decF n).length ≤ k + 1
  | 0, n, h => by
    rw [decF_lt (by simpa using h)]
    simp
  | k + 1, n, h => by
    by_cases h10 : n < 10
    · rw [decF_lt h10]
      simp
    · have := decF_low k (n / 10) (by rw [Nat.pow_succ] at h; omega)
      rw [decF_ge h10, List.length_append, List.length_singleton]
      omega
set_option maxRecDepth 100000
set_option maxHeartbeats 8000000
theorem itoa_len {n : Int} (h0 : -9223372036854775808 ≤ n) (h1 : n ≤ 9223372036854775807) : (Lib.itoa n).length ≤ 21 := by
  unfold Lib.itoa
  split
  · rw [List.length_cons, dec_lib]
    have := decF_low 19 n.natAbs (by omega)
    omega
  · rw [dec_lib]
    have := decF_low 19 n.toNat (by omega)
    omega
end Go.PM

namespace Go.PM
open Go.Proofs
attribute [local irreducible] W PCalls pcall pcallI WL
theorem decF_dig : ∀ n : Nat, ∀ c ∈ decF n, 48 ≤ c.toNat ∧ c.toNat ≤ 57
  | n => by
    have hd : ∀ k : Nat, k < 10 → 48 ≤ (UInt8.ofNat (48 + k)).toNat ∧ (UInt8.ofNat (48 + k)).toNat ≤ 57 := fun k hk => by
      rw [UInt8.toNat_ofNat']
      omega
    by_cases h : n < 10
    · rw [decF_lt h]
      intro c hc
      simp only [List.mem_singleton] at hc
      subst hc
      exact hd n h
    · rw [decF_ge h]
      intro c hc
      rcases List.mem_append.1 hc with hc | hc
      · exact decF_dig (n / 10) c hc
      · simp only [List.mem_singleton] at hc
        subst hc
        exact hd (n % 10) (by omega)
theorem itoa_vis {n : Int} : ∀ c ∈ Lib.itoa n, 33 ≤ c.toNat := by
  unfold Lib.itoa
  intro c hc
  split at hc
  · rcases List.mem_cons.1 hc with rfl | hc
    · decide
    · rw [dec_lib] at hc
      have := decF_dig _ c hc
      omega
  · rw [dec_lib] at hc
    have := decF_dig _ c hc
    omega
theorem itoa_ne {n : Int} : Lib.itoa n ≠ [] := by
  unfold Lib.itoa
  split
  · simp
  · rw [dec_lib]
    intro h
    by_cases h10 : n.toNat < 10
    · rw [decF_lt h10] at h
      cases h
    · rw [decF_ge h10] at h
      simp at h
theorem charF_nil (f : Font) (s : List UInt8) : charF [] f s = (1, singleF f (s.getD 0 0)) := rfl
/-- Bytes that can be seen are characters where there are no letters. -/
theorem chars_vis {f : Font} (hok : okFont f = true) : ∀ (k : Nat) (s : List UInt8), (∀ c ∈ s, 33 ≤ c.toNat) → ∀ x ∈ charsN [] f k s, x.2 ≠ 0
  | 0, _, _, x, h => by cases h
  | k + 1, s, hs, x, h => by
    unfold charsN at h
    split at h
    · cases h
    · rename_i hne
      rw [charF_nil] at h
      rcases List.mem_cons.1 h with rfl | h
      · obtain ⟨h1, h2, h3, _⟩ := (okFont_iff f).1 hok
        have h0 : 0 < s.length := List.length_pos_iff.2 hne
        have hc := hs s[0] (List.getElem_mem h0)
        have e : s.getD 0 0 = s[0] := by simp [List.getD_eq_getElem?_getD, h0]
        simp only
        rw [e]
        unfold singleF
        repeat' split
        all_goals omega
      · exact chars_vis hok k _ (fun c hc => hs c (List.mem_of_mem_drop hc)) x h
theorem meas_itoa {f : Font} (hok : okFont f = true) (bold : Bool) {n : Int} (h0 : -9223372036854775808 ≤ n) (h1 : n ≤ 9223372036854775807) : (measF [] f (Lib.itoa n) bold).2 = 0 ∧ 0 < (measF [] f (Lib.itoa n) bold).1.length := by
  have hl := itoa_len h0 h1
  rw [measF_ok (by omega) (chars_vis hok _ _ itoa_vis)]
  refine ⟨rfl, ?_⟩
  simp only
  rw [foldM_len _ (Nat.le_refl _)]
  exact charsF_pos _ _ _ itoa_ne
def numberF (f : Font) (n : Int) (bold : Bool) : Int := if okFont f then ((measF [] f (Lib.itoa n) bold).1.map (·.2)).getD ((measF [] f (Lib.itoa n) bold).1.length - 1) 0 else 0
set_option maxRecDepth 100000
set_option maxHeartbeats 8000000
theorem number_c (G : Globs) (t : TypeId) (hG : G 1 = .gtab t powC) (f : Font) (n : Int) (bold : Bool) (hf : HF f) (h0 : -9223372036854775808 ≤ n) (h1 : n ≤ 9223372036854775807) :
    PCalls Tryd.prog G 27 [foP f, pint .i64 n, pbool bold] [] (fun res H => res = pint .i64 (numberF f n bold) ∧ H = []) := by
  have c1 := fvalid_c G f hf
  have c2 := itoa_c G t hG n h0 h1
  have hl := itoa_len h0 h1
  unfold numberF
  cases hk : okFont f with
  | false =>
    rw [hk] at c1
    (refine PCalls_f Tryd.func27 rfl Tryd.ntmps27 Tryd.results27 (by simp) fun fin hfin => ?_; have hnm : True := trivial; simp (maxSteps := 2000000) (disch := omega) only [evb, evd, eve, constPV, seqK, blockK, scopeK, pbound, pelems, PV.mem?, PV.one, PV.cells, peqs, peq1, pkeys, pkeyt, List.set, Value.cells, ↓popG_eq, ↓pop.eq_1, ↓List.getElem?_map, ↓List.getElem?_cons_zero, ↓List.getElem?_cons_succ, Value.oneCell', Nat.reduceAdd, Nat.reduceMul, Nat.reduceSub, Nat.reduceLeDiff, Nat.reduceEqDiff, ↓reduceIte, ne_eq, reduceCtorEq, forall_const, exists_and_left, exists_eq_left', eq_self, Nat.reduceLT, Int.reduceLT, Int.reduceLE, Int.reduceToNat, Int.reduceAdd, Int.reduceSub, Int.reduceNeg, hnm, Tryd.tf0, Tryd.tf1, Tryd.tf2, Tryd.tf3, Tryd.tf4, Tryd.tf9, Tryd.tf22, Tryd.tf23, Tryd.tf27, Tryd.tf37, Tryd.tf60, Tryd.tf75, Tryd.call16, Tryd.call43, Tryd.call48])
    repeat' (first
    | (with_reducible apply W_seq_k; intro nx hnx)
    | (with_reducible first | apply W_block | apply W_scope)
    | (with_reducible refine W_prune 335 ?_; simp only [prb, Nat.reducePow, Nat.reduceDiv, Nat.reduceMod, Nat.reduceBEq]; first | (with_reducible apply W_region_l) | with_reducible refine W_region_draw (id := 3) 1 (.op 0 true (.op 1 true (.op 3 true (.op 2 true (.op 4 false (.op 5 true (.op 6 true (.op 7 true (.op 8 true (.op 9 true (.op 10 true (.op 11 true (.done))))))))))))) (by kernel_rfl) ?_)
    | ((first | (with_reducible apply WL_op; intro nx hnx) | with_reducible refine Ev_out ?_ | (with_reducible apply popsD_op; intro nx hnx) | (with_reducible refine popsD_alt ?_ ?_; intro nx hnx) | (with_reducible refine pfresh_k hnm fun nm hnm => ?_; (try simp only [fmb] at hnm)) | (with_reducible refine pborn_mu hnm fun nm hnm => ?_; (try simp only [fmb] at hnm))); try (simp (maxSteps := 2000000) (disch := omega) only [evb, evd, eve, constPV, seqK, blockK, scopeK, pbound, pelems, PV.mem?, PV.one, PV.cells, peqs, peq1, pkeys, pkeyt, List.set, Value.cells, ↓popG_eq, ↓pop.eq_1, ↓List.getElem?_map, ↓List.getElem?_cons_zero, ↓List.getElem?_cons_succ, Value.oneCell', Nat.reduceAdd, Nat.reduceMul, Nat.reduceSub, Nat.reduceLeDiff, Nat.reduceEqDiff, ↓reduceIte, ne_eq, reduceCtorEq, forall_const, exists_and_left, exists_eq_left', eq_self, Nat.reduceLT, Int.reduceLT, Int.reduceLE, Int.reduceToNat, Int.reduceAdd, Int.reduceSub, Int.reduceNeg, hnm, Tryd.tf0, Tryd.tf1, Tryd.tf2, Tryd.tf3, Tryd.tf4, Tryd.tf9, Tryd.tf22, Tryd.tf23, Tryd.tf27, Tryd.tf37, Tryd.tf60, Tryd.tf75, Tryd.call16, Tryd.call43, Tryd.call48]); repeat (refine And.intro (by omega) ?_))
    | ((with_reducible first | apply WL_nil | apply W_label | apply W_skip | apply W_exit | apply W_ret | apply popsD_done); try simp only [seqK, blockK, scopeK, ↓reduceIte, Nat.reduceEqDiff])
    | with_reducible exact popsD_stop
    | (with_reducible apply W_cond_k; intro _ _ ea eb; (simp only [condK, cob, opnd, constPV, Nat.reduceEqDiff, Nat.reduceLT, ↓reduceIte, hcb, reduceCtorEq, forall_const, ne_eq]); subst ea eb; first | (refine ⟨fun hc => ?_, fun hc => ?_⟩ <;> first | (exfalso; omega) | (exfalso; exact hc trivial) | skip) | skip)
    | (with_reducible apply hnx; clear hnx nx)
    | (with_reducible refine And.intro (by omega) ?_)
    | (with_reducible refine And.intro ?_ ?_)
    | (with_reducible refine pcall_k (c1) ?_; rintro _ _ ⟨rfl, rfl⟩ -; refine Ev_in ?_)
    | (with_reducible refine pcall_k (c2) ?_; rintro _ _ ⟨rfl, rfl⟩ -; refine Ev_in ?_)
    | (clear hnx nx; with_reducible apply hnx; clear hnx nx)
    | (clear hnx nx; clear hnx nx; with_reducible apply hnx; clear hnx nx))
    all_goals first | exact absurd trivial hc | contradiction | exact fun h => False.elim h | (exfalso; omega) | (exfalso; have hc := of_decide_eq_false hc; omega) | (exfalso; simp only [Bool.not_false, Bool.not_true, decide_eq_true_eq, decide_eq_false_iff_not] at *; omega) | skip
    all_goals
      refine hfin _ _ (Fin_ret1 rfl (Sub_nil _) ?_); simp only [List.getD_cons_zero, List.getD_cons_succ, fr_getD_cons, fr_getD_nil, Nat.reduceEqDiff, Nat.reduceLT, ↓reduceIte]
      exact ⟨by first | rfl | trivial, by trivial⟩
  | true =>
    rw [hk] at c1
    have c3 := (measure_f G [] f (Lib.itoa n) bold ⟨by simp, by simp⟩ (by simp) hf hk (by omega)).nil1
    obtain ⟨m1, m2⟩ := meas_itoa hk bold h0 h1
    have m3 := (measF_len (a := []) (f := f) (bold := bold) (s := Lib.itoa n)).2
    generalize measF [] f (Lib.itoa n) bold = m at *
    obtain ⟨l, e⟩ := m
    simp only at *
    subst m1
    have hget : (l.map fun x => pint .i64 x.2).getD (l.length - 1) .junk = pint .i64 ((l.map (·.2)).getD (l.length - 1) 0) := by
      rw [List.getD_eq_getElem?_getD, List.getElem?_map, List.getD_eq_getElem?_getD, List.getElem?_map, List.getElem?_eq_getElem (by omega)]
      rfl
    generalize hz : (l.map (·.2)).getD (l.length - 1) 0 = z at *
    generalize Lib.itoa n = s at *
    (refine PCalls_f Tryd.func27 rfl Tryd.ntmps27 Tryd.results27 (by simp) fun fin hfin => ?_; have hnm : True := trivial; simp (maxSteps := 2000000) (disch := omega) only [evb, evd, eve, constPV, seqK, blockK, scopeK, pbound, pelems, PV.mem?, PV.one, PV.cells, peqs, peq1, pkeys, pkeyt, List.set, Value.cells, ↓popG_eq, ↓pop.eq_1, ↓List.getElem?_map, ↓List.getElem?_cons_zero, ↓List.getElem?_cons_succ, Value.oneCell', Nat.reduceAdd, Nat.reduceMul, Nat.reduceSub, Nat.reduceLeDiff, Nat.reduceEqDiff, ↓reduceIte, ne_eq, reduceCtorEq, forall_const, exists_and_left, exists_eq_left', eq_self, Nat.reduceLT, Int.reduceLT, Int.reduceLE, Int.reduceToNat, Int.reduceAdd, Int.reduceSub, Int.reduceNeg, hnm, Tryd.tf0, Tryd.tf1, Tryd.tf2, Tryd.tf3, Tryd.tf4, Tryd.tf9, Tryd.tf22, Tryd.tf23, Tryd.tf27, Tryd.tf37, Tryd.tf60, Tryd.tf75, Tryd.call16, Tryd.call43, Tryd.call48])
    repeat' (first
    | (with_reducible apply W_seq_k; intro nx hnx)
    | (with_reducible first | apply W_block | apply W_scope)
    | (with_reducible refine W_prune 335 ?_; simp only [prb, Nat.reducePow, Nat.reduceDiv, Nat.reduceMod, Nat.reduceBEq]; first | (with_reducible apply W_region_l) | with_reducible refine W_region_draw (id := 3) 1 (.op 0 true (.op 1 true (.op 3 true (.op 2 true (.op 4 false (.op 5 true (.op 6 true (.op 7 true (.op 8 true (.op 9 true (.op 10 true (.op 11 true (.done))))))))))))) (by kernel_rfl) ?_)
    | ((first | (with_reducible apply WL_op; intro nx hnx) | with_reducible refine Ev_out ?_ | (with_reducible apply popsD_op; intro nx hnx) | (with_reducible refine popsD_alt ?_ ?_; intro nx hnx) | (with_reducible refine pfresh_k hnm fun nm hnm => ?_; (try simp only [fmb] at hnm)) | (with_reducible refine pborn_mu hnm fun nm hnm => ?_; (try simp only [fmb] at hnm))); try (simp (maxSteps := 2000000) (disch := omega) only [evb, evd, eve, constPV, seqK, blockK, scopeK, pbound, pelems, PV.mem?, PV.one, PV.cells, peqs, peq1, pkeys, pkeyt, List.set, Value.cells, ↓popG_eq, ↓pop.eq_1, ↓List.getElem?_map, ↓List.getElem?_cons_zero, ↓List.getElem?_cons_succ, Value.oneCell', Nat.reduceAdd, Nat.reduceMul, Nat.reduceSub, Nat.reduceLeDiff, Nat.reduceEqDiff, ↓reduceIte, ne_eq, reduceCtorEq, forall_const, exists_and_left, exists_eq_left', eq_self, Nat.reduceLT, Int.reduceLT, Int.reduceLE, Int.reduceToNat, Int.reduceAdd, Int.reduceSub, Int.reduceNeg, hnm, Tryd.tf0, Tryd.tf1, Tryd.tf2, Tryd.tf3, Tryd.tf4, Tryd.tf9, Tryd.tf22, Tryd.tf23, Tryd.tf27, Tryd.tf37, Tryd.tf60, Tryd.tf75, Tryd.call16, Tryd.call43, Tryd.call48, hget]); repeat (refine And.intro (by omega) ?_))
    | ((with_reducible first | apply WL_nil | apply W_label | apply W_skip | apply W_exit | apply W_ret | apply popsD_done); try simp only [seqK, blockK, scopeK, ↓reduceIte, Nat.reduceEqDiff])
    | with_reducible exact popsD_stop
    | (with_reducible apply W_cond_k; intro _ _ ea eb; (simp only [condK, cob, opnd, constPV, Nat.reduceEqDiff, Nat.reduceLT, ↓reduceIte, hcb, reduceCtorEq, forall_const, ne_eq]); subst ea eb; first | (refine ⟨fun hc => ?_, fun hc => ?_⟩ <;> first | (exfalso; omega) | (exfalso; exact hc trivial) | skip) | skip)
    | (with_reducible apply hnx; clear hnx nx)
    | (with_reducible refine And.intro (by omega) ?_)
    | (with_reducible refine And.intro ?_ ?_)
    | (with_reducible refine pcall_k (c1) ?_; rintro _ _ ⟨rfl, rfl⟩ -; refine Ev_in ?_)
    | (with_reducible refine pcall_k (c2) ?_; rintro _ _ ⟨rfl, rfl⟩ -; refine Ev_in ?_)
    | (with_reducible refine pcall_k (c3) ?_; rintro _ _ ⟨rfl, rfl⟩ -; refine Ev_in ?_)
    | (clear hnx nx; with_reducible apply hnx; clear hnx nx)
    | (clear hnx nx; clear hnx nx; with_reducible apply hnx; clear hnx nx))
    all_goals first | exact absurd trivial hc | contradiction | exact fun h => False.elim h | (exfalso; omega) | (exfalso; have hc := of_decide_eq_false hc; omega) | (exfalso; simp only [Bool.not_false, Bool.not_true, decide_eq_true_eq, decide_eq_false_iff_not] at *; omega) | skip
    all_goals
      refine hfin _ _ (Fin_ret1 rfl (Sub_nil _) ?_); simp only [List.getD_cons_zero, List.getD_cons_succ, fr_getD_cons, fr_getD_nil, Nat.reduceEqDiff, Nat.reduceLT, ↓reduceIte]
      exact ⟨by first | rfl | trivial | simp, by trivial⟩
theorem rfit_c (G : Globs) (a : List Ltr) (f : Font) (s : List UInt8) (bold : Bool) (most : Int) (ha : HA a) (hf : HF f) (hsl : s.length ≤ 100000000) (hm : -9223372036854775808 ≤ most ∧ most ≤ 9223372036854775807) :
    PCalls Tryd.prog G 26 [ltsP a, foP f, pstr s, pbool bold, pint .i64 most] [] (fun res H => res = pstr (fitF a f s bold most) ∧ H = []) := by
  have c1 := rvalid_c G a ha
  have c2 := rfvalid_c G f hf
  unfold fitF
  cases hv : validF a with
  | false =>
    rw [hv] at c1
    (refine PCalls_f Tryd.func26 rfl Tryd.ntmps26 Tryd.results26 (by simp) fun fin hfin => ?_; have hnm : True := trivial; simp (maxSteps := 2000000) (disch := omega) only [evb, evd, eve, constPV, seqK, blockK, scopeK, pbound, pelems, PV.mem?, PV.one, PV.cells, peqs, peq1, pkeys, pkeyt, List.set, Value.cells, ↓popG_eq, ↓pop.eq_1, ↓List.getElem?_map, ↓List.getElem?_cons_zero, ↓List.getElem?_cons_succ, Value.oneCell', Nat.reduceAdd, Nat.reduceMul, Nat.reduceSub, Nat.reduceLeDiff, Nat.reduceEqDiff, ↓reduceIte, ne_eq, reduceCtorEq, forall_const, exists_and_left, exists_eq_left', eq_self, Nat.reduceLT, Int.reduceLT, Int.reduceLE, Int.reduceToNat, Int.reduceAdd, Int.reduceSub, Int.reduceNeg, hnm, Tryd.tf0, Tryd.tf1, Tryd.tf2, Tryd.tf3, Tryd.tf4, Tryd.tf9, Tryd.tf22, Tryd.tf23, Tryd.tf27, Tryd.tf37, Tryd.tf60, Tryd.tf75, Tryd.call17, Tryd.call44, Tryd.call45])
    repeat' (first
    | (with_reducible apply W_seq_k; intro nx hnx)
    | (with_reducible first | apply W_block | apply W_scope)
    | (with_reducible refine W_prune 56415 ?_; simp only [prb, Nat.reducePow, Nat.reduceDiv, Nat.reduceMod, Nat.reduceBEq]; with_reducible apply W_region_l)
    | ((first | (with_reducible apply WL_op; intro nx hnx) | with_reducible refine Ev_out ?_ | (with_reducible refine pfresh_k hnm fun nm hnm => ?_; (try simp only [fmb] at hnm)) | (with_reducible refine pborn_mu hnm fun nm hnm => ?_; (try simp only [fmb] at hnm))); try (simp (maxSteps := 2000000) (disch := omega) only [evb, evd, eve, constPV, seqK, blockK, scopeK, pbound, pelems, PV.mem?, PV.one, PV.cells, peqs, peq1, pkeys, pkeyt, List.set, Value.cells, ↓popG_eq, ↓pop.eq_1, ↓List.getElem?_map, ↓List.getElem?_cons_zero, ↓List.getElem?_cons_succ, Value.oneCell', Nat.reduceAdd, Nat.reduceMul, Nat.reduceSub, Nat.reduceLeDiff, Nat.reduceEqDiff, ↓reduceIte, ne_eq, reduceCtorEq, forall_const, exists_and_left, exists_eq_left', eq_self, Nat.reduceLT, Int.reduceLT, Int.reduceLE, Int.reduceToNat, Int.reduceAdd, Int.reduceSub, Int.reduceNeg, hnm, Tryd.tf0, Tryd.tf1, Tryd.tf2, Tryd.tf3, Tryd.tf4, Tryd.tf9, Tryd.tf22, Tryd.tf23, Tryd.tf27, Tryd.tf37, Tryd.tf60, Tryd.tf75, Tryd.call17, Tryd.call44, Tryd.call45]); repeat (refine And.intro (by omega) ?_))
    | ((with_reducible first | apply WL_nil | apply W_label | apply W_skip | apply W_exit | apply W_ret); try simp only [seqK, blockK, scopeK, ↓reduceIte, Nat.reduceEqDiff])
    | (with_reducible apply pguard_intro <;> (intro hc; (try simp only [hcb, reduceCtorEq, forall_const, ne_eq] at hc); first | (exfalso; omega) | (exfalso; exact hc trivial) | refine Ev_in ?_))
    | (with_reducible apply W_cond_k; intro _ _ ea eb; (simp only [condK, cob, opnd, constPV, Nat.reduceEqDiff, Nat.reduceLT, ↓reduceIte, hcb, reduceCtorEq, forall_const, ne_eq]); subst ea eb; first | (refine ⟨fun hc => ?_, fun hc => ?_⟩ <;> first | (exfalso; omega) | (exfalso; exact hc trivial) | skip) | skip)
    | (with_reducible apply hnx; clear hnx nx)
    | (with_reducible refine And.intro (by omega) ?_)
    | (with_reducible refine And.intro ?_ ?_)
    | (with_reducible refine pcall_k (c1) ?_; rintro _ _ ⟨rfl, rfl⟩ -; refine Ev_in ?_)
    | (with_reducible refine pcall_k (c2) ?_; rintro _ _ ⟨rfl, rfl⟩ -; refine Ev_in ?_)
    | (clear hnx nx; with_reducible apply hnx; clear hnx nx)
    | (clear hnx nx; clear hnx nx; with_reducible apply hnx; clear hnx nx))
    all_goals first | exact absurd trivial hc | contradiction | exact fun h => False.elim h | (exfalso; omega) | (exfalso; have hc := of_decide_eq_false hc; omega) | (exfalso; simp only [Bool.not_false, Bool.not_true, decide_eq_true_eq, decide_eq_false_iff_not] at *; omega) | skip
    all_goals
      refine hfin _ _ (Fin_ret1 rfl (Sub_nil _) ?_); simp only [List.getD_cons_zero, List.getD_cons_succ, fr_getD_cons, fr_getD_nil, Nat.reduceEqDiff, Nat.reduceLT, ↓reduceIte]
      exact ⟨by first | rfl | trivial, by trivial⟩
  | true =>
    cases hk : okFont f with
    | false =>
      rw [hv] at c1
      rw [hk] at c2
      (refine PCalls_f Tryd.func26 rfl Tryd.ntmps26 Tryd.results26 (by simp) fun fin hfin => ?_; have hnm : True := trivial; simp (maxSteps := 2000000) (disch := omega) only [evb, evd, eve, constPV, seqK, blockK, scopeK, pbound, pelems, PV.mem?, PV.one, PV.cells, peqs, peq1, pkeys, pkeyt, List.set, Value.cells, ↓popG_eq, ↓pop.eq_1, ↓List.getElem?_map, ↓List.getElem?_cons_zero, ↓List.getElem?_cons_succ, Value.oneCell', Nat.reduceAdd, Nat.reduceMul, Nat.reduceSub, Nat.reduceLeDiff, Nat.reduceEqDiff, ↓reduceIte, ne_eq, reduceCtorEq, forall_const, exists_and_left, exists_eq_left', eq_self, Nat.reduceLT, Int.reduceLT, Int.reduceLE, Int.reduceToNat, Int.reduceAdd, Int.reduceSub, Int.reduceNeg, hnm, Tryd.tf0, Tryd.tf1, Tryd.tf2, Tryd.tf3, Tryd.tf4, Tryd.tf9, Tryd.tf22, Tryd.tf23, Tryd.tf27, Tryd.tf37, Tryd.tf60, Tryd.tf75, Tryd.call17, Tryd.call44, Tryd.call45])
      repeat' (first
    | (with_reducible apply W_seq_k; intro nx hnx)
    | (with_reducible first | apply W_block | apply W_scope)
    | (with_reducible refine W_prune 56415 ?_; simp only [prb, Nat.reducePow, Nat.reduceDiv, Nat.reduceMod, Nat.reduceBEq]; with_reducible apply W_region_l)
    | ((first | (with_reducible apply WL_op; intro nx hnx) | with_reducible refine Ev_out ?_ | (with_reducible refine pfresh_k hnm fun nm hnm => ?_; (try simp only [fmb] at hnm)) | (with_reducible refine pborn_mu hnm fun nm hnm => ?_; (try simp only [fmb] at hnm))); try (simp (maxSteps := 2000000) (disch := omega) only [evb, evd, eve, constPV, seqK, blockK, scopeK, pbound, pelems, PV.mem?, PV.one, PV.cells, peqs, peq1, pkeys, pkeyt, List.set, Value.cells, ↓popG_eq, ↓pop.eq_1, ↓List.getElem?_map, ↓List.getElem?_cons_zero, ↓List.getElem?_cons_succ, Value.oneCell', Nat.reduceAdd, Nat.reduceMul, Nat.reduceSub, Nat.reduceLeDiff, Nat.reduceEqDiff, ↓reduceIte, ne_eq, reduceCtorEq, forall_const, exists_and_left, exists_eq_left', eq_self, Nat.reduceLT, Int.reduceLT, Int.reduceLE, Int.reduceToNat, Int.reduceAdd, Int.reduceSub, Int.reduceNeg, hnm, Tryd.tf0, Tryd.tf1, Tryd.tf2, Tryd.tf3, Tryd.tf4, Tryd.tf9, Tryd.tf22, Tryd.tf23, Tryd.tf27, Tryd.tf37, Tryd.tf60, Tryd.tf75, Tryd.call17, Tryd.call44, Tryd.call45]); repeat (refine And.intro (by omega) ?_))
    | ((with_reducible first | apply WL_nil | apply W_label | apply W_skip | apply W_exit | apply W_ret); try simp only [seqK, blockK, scopeK, ↓reduceIte, Nat.reduceEqDiff])
    | (with_reducible apply pguard_intro <;> (intro hc; (try simp only [hcb, reduceCtorEq, forall_const, ne_eq] at hc); first | (exfalso; omega) | (exfalso; exact hc trivial) | refine Ev_in ?_))
    | (with_reducible apply W_cond_k; intro _ _ ea eb; (simp only [condK, cob, opnd, constPV, Nat.reduceEqDiff, Nat.reduceLT, ↓reduceIte, hcb, reduceCtorEq, forall_const, ne_eq]); subst ea eb; first | (refine ⟨fun hc => ?_, fun hc => ?_⟩ <;> first | (exfalso; omega) | (exfalso; exact hc trivial) | skip) | skip)
    | (with_reducible apply hnx; clear hnx nx)
    | (with_reducible refine And.intro (by omega) ?_)
    | (with_reducible refine And.intro ?_ ?_)
    | (with_reducible refine pcall_k (c1) ?_; rintro _ _ ⟨rfl, rfl⟩ -; refine Ev_in ?_)
    | (with_reducible refine pcall_k (c2) ?_; rintro _ _ ⟨rfl, rfl⟩ -; refine Ev_in ?_)
    | (clear hnx nx; with_reducible apply hnx; clear hnx nx)
    | (clear hnx nx; clear hnx nx; with_reducible apply hnx; clear hnx nx))
      all_goals first | exact absurd trivial hc | contradiction | exact fun h => False.elim h | (exfalso; omega) | (exfalso; have hc := of_decide_eq_false hc; omega) | (exfalso; simp only [Bool.not_false, Bool.not_true, decide_eq_true_eq, decide_eq_false_iff_not] at *; omega) | skip
      all_goals
        refine hfin _ _ (Fin_ret1 rfl (Sub_nil _) ?_); simp only [List.getD_cons_zero, List.getD_cons_succ, fr_getD_cons, fr_getD_nil, Nat.reduceEqDiff, Nat.reduceLT, ↓reduceIte]
        exact ⟨by first | rfl | trivial, by trivial⟩
    | true =>
      rw [hv] at c1
      rw [hk] at c2
      have c3 := rmeasure_f G a f s bold ha (valid_txt hv) (fun x hx => ⟨by have := valid_wid hv x hx; omega, (valid_wid hv x hx).2⟩) hf hk (by omega)
      have hmm := measF_mem (a := a) (f := f) (bold := bold) (s := s)
      have hml := measF_len (a := a) (f := f) (bold := bold) (s := s)
      generalize measF a f s bold = m at *
      obtain ⟨l, e⟩ := m
      simp only at *
      have hle := fitL_le (most := most) hmm
      (refine PCalls_f Tryd.func26 rfl Tryd.ntmps26 Tryd.results26 (by simp) fun fin hfin => ?_; have hnm : True := trivial; simp (maxSteps := 2000000) (disch := omega) only [evb, evd, eve, constPV, seqK, blockK, scopeK, pbound, pelems, PV.mem?, PV.one, PV.cells, peqs, peq1, pkeys, pkeyt, List.set, Value.cells, ↓popG_eq, ↓pop.eq_1, ↓List.getElem?_map, ↓List.getElem?_cons_zero, ↓List.getElem?_cons_succ, Value.oneCell', Nat.reduceAdd, Nat.reduceMul, Nat.reduceSub, Nat.reduceLeDiff, Nat.reduceEqDiff, ↓reduceIte, ne_eq, reduceCtorEq, forall_const, exists_and_left, exists_eq_left', eq_self, Nat.reduceLT, Int.reduceLT, Int.reduceLE, Int.reduceToNat, Int.reduceAdd, Int.reduceSub, Int.reduceNeg, hnm, Tryd.tf0, Tryd.tf1, Tryd.tf2, Tryd.tf3, Tryd.tf4, Tryd.tf9, Tryd.tf22, Tryd.tf23, Tryd.tf27, Tryd.tf37, Tryd.tf60, Tryd.tf75, Tryd.call17, Tryd.call44, Tryd.call45])
      repeat' (first
    | (with_reducible apply W_seq_k; intro nx hnx)
    | (with_reducible first | apply W_block | apply W_scope)
    | (with_reducible refine W_prune 56415 ?_; simp only [prb, Nat.reducePow, Nat.reduceDiv, Nat.reduceMod, Nat.reduceBEq]; with_reducible apply W_region_l)
    | ((first | (with_reducible apply WL_op; intro nx hnx) | with_reducible refine Ev_out ?_ | (with_reducible refine pfresh_k hnm fun nm hnm => ?_; (try simp only [fmb] at hnm)) | (with_reducible refine pborn_mu hnm fun nm hnm => ?_; (try simp only [fmb] at hnm))); try (simp (maxSteps := 2000000) (disch := omega) only [evb, evd, eve, constPV, seqK, blockK, scopeK, pbound, pelems, PV.mem?, PV.one, PV.cells, peqs, peq1, pkeys, pkeyt, List.set, Value.cells, ↓popG_eq, ↓pop.eq_1, ↓List.getElem?_map, ↓List.getElem?_cons_zero, ↓List.getElem?_cons_succ, Value.oneCell', Nat.reduceAdd, Nat.reduceMul, Nat.reduceSub, Nat.reduceLeDiff, Nat.reduceEqDiff, ↓reduceIte, ne_eq, reduceCtorEq, forall_const, exists_and_left, exists_eq_left', eq_self, Nat.reduceLT, Int.reduceLT, Int.reduceLE, Int.reduceToNat, Int.reduceAdd, Int.reduceSub, Int.reduceNeg, hnm, Tryd.tf0, Tryd.tf1, Tryd.tf2, Tryd.tf3, Tryd.tf4, Tryd.tf9, Tryd.tf22, Tryd.tf23, Tryd.tf27, Tryd.tf37, Tryd.tf60, Tryd.tf75, Tryd.call17, Tryd.call44, Tryd.call45]); repeat (refine And.intro (by omega) ?_))
    | ((with_reducible first | apply WL_nil | apply W_label | apply W_skip | apply W_exit | apply W_ret); try simp only [seqK, blockK, scopeK, ↓reduceIte, Nat.reduceEqDiff])
    | (with_reducible apply pguard_intro <;> (intro hc; (try simp only [hcb, reduceCtorEq, forall_const, ne_eq] at hc); first | (exfalso; omega) | (exfalso; exact hc trivial) | refine Ev_in ?_))
    | (with_reducible apply W_cond_k; intro _ _ ea eb; (simp only [condK, cob, opnd, constPV, Nat.reduceEqDiff, Nat.reduceLT, ↓reduceIte, hcb, reduceCtorEq, forall_const, ne_eq]); subst ea eb; first | (refine ⟨fun hc => ?_, fun hc => ?_⟩ <;> first | (exfalso; omega) | (exfalso; exact hc trivial) | skip) | skip)
    | (with_reducible apply hnx; clear hnx nx)
    | (with_reducible refine And.intro (by omega) ?_)
    | (with_reducible refine And.intro ?_ ?_)
    | (with_reducible refine pcall_k (c1) ?_; rintro _ _ ⟨rfl, rfl⟩ -; refine Ev_in ?_)
    | (with_reducible refine pcall_k (c2) ?_; rintro _ _ ⟨rfl, rfl⟩ -; refine Ev_in ?_)
    | (with_reducible refine pcall_k (c3) ?_; rintro _ _ ⟨rfl, rfl⟩ -; refine Ev_in ?_)
    | (clear hnx nx; with_reducible apply hnx; clear hnx nx)
    | (clear hnx nx; clear hnx nx; with_reducible apply hnx; clear hnx nx))
      all_goals first | exact absurd trivial hc | contradiction | exact fun h => False.elim h | (exfalso; omega) | (exfalso; have hc := of_decide_eq_false hc; omega) | (exfalso; simp only [Bool.not_false, Bool.not_true, decide_eq_true_eq, decide_eq_false_iff_not] at *; omega) | skip
      refine W_loop_k (fun z τ => ∃ i : Nat, i ≤ l.length ∧ z = l.length - i ∧ τ = ⟨fr 52 [(15, pn i), (14, pstr (s.take (fitL most l i))), (12, uP l), (11, eP l), (4, pint .i64 most), (2, pstr s)], []⟩) l.length
        ⟨fr 52 [(15, pn 0), (14, .val (.string ⟨#[]⟩)), (12, uP l), (11, eP l), (4, pint .i64 most), (2, pstr s)], []⟩ (by
        exact Wk_fr (by simp only [wkb, Nat.reduceEqDiff, Nat.reduceLT, ↓reduceIte, pn]) (Sub_nil _)) ⟨0, by omega, by omega, rfl⟩ ?_
      rintro z τ ⟨i, hi, rfl, rfl⟩ lp hlp
      have hlei := hle i hi
      by_cases hil : i < l.length
      · have hst := fitL_step (most := most) hil
        have hget : l[i]? = some l[i] := List.getElem?_eq_getElem hil
        have hmi := hmm l[i] (List.getElem_mem hil)
        generalize fitL most l i = k at *
        repeat' (first
    | (with_reducible apply W_seq_k; intro nx hnx)
    | (with_reducible first | apply W_block | apply W_scope)
    | (with_reducible refine W_prune 56415 ?_; simp only [prb, Nat.reducePow, Nat.reduceDiv, Nat.reduceMod, Nat.reduceBEq]; with_reducible apply W_region_l)
    | ((first | (with_reducible apply WL_op; intro nx hnx) | with_reducible refine Ev_out ?_ | (with_reducible refine pfresh_k hnm fun nm hnm => ?_; (try simp only [fmb] at hnm)) | (with_reducible refine pborn_mu hnm fun nm hnm => ?_; (try simp only [fmb] at hnm))); try (simp (maxSteps := 2000000) (disch := omega) only [evb, evd, eve, constPV, seqK, blockK, scopeK, pbound, pelems, PV.mem?, PV.one, PV.cells, peqs, peq1, pkeys, pkeyt, List.set, Value.cells, ↓popG_eq, ↓pop.eq_1, ↓List.getElem?_map, ↓List.getElem?_cons_zero, ↓List.getElem?_cons_succ, Value.oneCell', Nat.reduceAdd, Nat.reduceMul, Nat.reduceSub, Nat.reduceLeDiff, Nat.reduceEqDiff, ↓reduceIte, ne_eq, reduceCtorEq, forall_const, exists_and_left, exists_eq_left', eq_self, Nat.reduceLT, Int.reduceLT, Int.reduceLE, Int.reduceToNat, Int.reduceAdd, Int.reduceSub, Int.reduceNeg, hnm, Tryd.tf0, Tryd.tf1, Tryd.tf2, Tryd.tf3, Tryd.tf4, Tryd.tf9, Tryd.tf22, Tryd.tf23, Tryd.tf27, Tryd.tf37, Tryd.tf60, Tryd.tf75, Tryd.call17, Tryd.call44, Tryd.call45, hget]); repeat (refine And.intro (by omega) ?_))
    | ((with_reducible first | apply WL_nil | apply W_label | apply W_skip | apply W_exit | apply W_ret); try simp only [seqK, blockK, scopeK, ↓reduceIte, Nat.reduceEqDiff])
    | (with_reducible apply pguard_intro <;> (intro hc; (try simp only [hcb, reduceCtorEq, forall_const, ne_eq] at hc); first | (exfalso; omega) | (exfalso; exact hc trivial) | refine Ev_in ?_))
    | (with_reducible apply W_cond_k; intro _ _ ea eb; (simp only [condK, cob, opnd, constPV, Nat.reduceEqDiff, Nat.reduceLT, ↓reduceIte, hcb, reduceCtorEq, forall_const, ne_eq]); subst ea eb; first | (refine ⟨fun hc => ?_, fun hc => ?_⟩ <;> first | (exfalso; omega) | (exfalso; exact hc trivial) | skip) | skip)
    | (with_reducible apply hnx; clear hnx nx)
    | (with_reducible refine And.intro (by omega) ?_)
    | (with_reducible refine And.intro ?_ ?_)
    | (clear hnx nx; with_reducible apply hnx; clear hnx nx)
    | (clear hnx nx; clear hnx nx; with_reducible apply hnx; clear hnx nx))
        all_goals first | exact absurd trivial hc | contradiction | exact fun h => False.elim h | (exfalso; omega) | (exfalso; have hc := of_decide_eq_false hc; omega) | (exfalso; simp only [Bool.not_false, Bool.not_true, decide_eq_true_eq, decide_eq_false_iff_not] at *; omega) | skip
        all_goals
          refine hlp _ (l.length - (i + 1)) ⟨fr 52 [(15, pn (i + 1)), (14, pstr (s.take (fitL most l (i + 1)))), (12, uP l), (11, eP l), (4, pint .i64 most), (2, pstr s)], []⟩ (by omega) ?_ ⟨i + 1, by omega, rfl, rfl⟩
          rw [hst]
          first
            | (rw [if_pos hc]
               exact Wk_fr (by simp only [wkb, Nat.reduceEqDiff, Nat.reduceLT, ↓reduceIte, pn]) (Sub_nil _))
            | (rw [if_neg hc]
               exact Wk_fr (by simp only [wkb, Nat.reduceEqDiff, Nat.reduceLT, ↓reduceIte, pn]) (Sub_nil _))
      · have hi2 : i = l.length := by omega
        subst hi2
        generalize fitL most l l.length = k at *
        repeat' (first
    | (with_reducible apply W_seq_k; intro nx hnx)
    | (with_reducible first | apply W_block | apply W_scope)
    | (with_reducible refine W_prune 56415 ?_; simp only [prb, Nat.reducePow, Nat.reduceDiv, Nat.reduceMod, Nat.reduceBEq]; with_reducible apply W_region_l)
    | ((first | (with_reducible apply WL_op; intro nx hnx) | with_reducible refine Ev_out ?_ | (with_reducible refine pfresh_k hnm fun nm hnm => ?_; (try simp only [fmb] at hnm)) | (with_reducible refine pborn_mu hnm fun nm hnm => ?_; (try simp only [fmb] at hnm))); try (simp (maxSteps := 2000000) (disch := omega) only [evb, evd, eve, constPV, seqK, blockK, scopeK, pbound, pelems, PV.mem?, PV.one, PV.cells, peqs, peq1, pkeys, pkeyt, List.set, Value.cells, ↓popG_eq, ↓pop.eq_1, ↓List.getElem?_map, ↓List.getElem?_cons_zero, ↓List.getElem?_cons_succ, Value.oneCell', Nat.reduceAdd, Nat.reduceMul, Nat.reduceSub, Nat.reduceLeDiff, Nat.reduceEqDiff, ↓reduceIte, ne_eq, reduceCtorEq, forall_const, exists_and_left, exists_eq_left', eq_self, Nat.reduceLT, Int.reduceLT, Int.reduceLE, Int.reduceToNat, Int.reduceAdd, Int.reduceSub, Int.reduceNeg, hnm, Tryd.tf0, Tryd.tf1, Tryd.tf2, Tryd.tf3, Tryd.tf4, Tryd.tf9, Tryd.tf22, Tryd.tf23, Tryd.tf27, Tryd.tf37, Tryd.tf60, Tryd.tf75, Tryd.call17, Tryd.call44, Tryd.call45]); repeat (refine And.intro (by omega) ?_))
    | ((with_reducible first | apply WL_nil | apply W_label | apply W_skip | apply W_exit | apply W_ret); try simp only [seqK, blockK, scopeK, ↓reduceIte, Nat.reduceEqDiff])
    | (with_reducible apply pguard_intro <;> (intro hc; (try simp only [hcb, reduceCtorEq, forall_const, ne_eq] at hc); first | (exfalso; omega) | (exfalso; exact hc trivial) | refine Ev_in ?_))
    | (with_reducible apply W_cond_k; intro _ _ ea eb; (simp only [condK, cob, opnd, constPV, Nat.reduceEqDiff, Nat.reduceLT, ↓reduceIte, hcb, reduceCtorEq, forall_const, ne_eq]); subst ea eb; first | (refine ⟨fun hc => ?_, fun hc => ?_⟩ <;> first | (exfalso; omega) | (exfalso; exact hc trivial) | skip) | skip)
    | (with_reducible apply hnx; clear hnx nx)
    | (with_reducible refine And.intro (by omega) ?_)
    | (with_reducible refine And.intro ?_ ?_)
    | (clear hnx nx; with_reducible apply hnx; clear hnx nx)
    | (clear hnx nx; clear hnx nx; with_reducible apply hnx; clear hnx nx))
        all_goals first | exact absurd trivial hc | contradiction | exact fun h => False.elim h | (exfalso; omega) | (exfalso; have hc := of_decide_eq_false hc; omega) | (exfalso; simp only [Bool.not_false, Bool.not_true, decide_eq_true_eq, decide_eq_false_iff_not] at *; omega) | skip
        all_goals
          refine hfin _ _ (Fin_ret1 rfl (Sub_nil _) ?_); simp only [List.getD_cons_zero, List.getD_cons_succ, fr_getD_cons, fr_getD_nil, Nat.reduceEqDiff, Nat.reduceLT, ↓reduceIte]
          exact ⟨by first | rfl | trivial | simp, by trivial⟩
end Go.PM

namespace Go.PM
open Go.Proofs
@[reducible] def cellK (k : Kern) : List PV := [pstr k.left, pstr k.right, pint .i64 k.by_]
/-- The cells of kerns, one after the other. -/
def flatK (l : List Kern) : List PV := l.flatMap cellK
theorem flatK_cons (x : Kern) (l : List Kern) : flatK (x :: l) = cellK x ++ flatK l := by simp [flatK]
theorem flatK_len : ∀ l : List Kern, (flatK l).length = l.length * 3
  | [] => rfl
  | c :: l => by
    have := flatK_len l
    rw [flatK_cons, List.length_append, this]
    simp only [List.length_cons, List.length_nil]
    omega
theorem flatK_snoc (l : List Kern) (x : Kern) : flatK (l ++ [x]) = flatK l ++ cellK x := by simp [flatK]
theorem elems_flatK : ∀ (l : List Kern), (List.range l.length).map (fun i => PV.agg (((flatK l).drop (i * 3)).take 3)) = l.map kP
  | [] => rfl
  | c :: l => by
    rw [List.length_cons, List.range_succ_eq_map, List.map_cons, List.map_cons, List.map_map]
    congr 1
    rw [← elems_flatK l]
    refine List.map_congr_left fun i _ => ?_
    simp only [Function.comp_apply, Nat.succ_eq_add_one]
    rw [show (i + 1) * 3 = i * 3 + 3 by omega]
    show PV.agg (List.take 3 (List.drop (i * 3 + 3) (cellK c ++ flatK l))) = _
    rw [List.drop_append]
    simp
theorem frz_ks (n : Int) (l : List Kern) : frz1 n (flatK l) (.row n 3 l.length) = ksP l := by
  simp only [frz1, if_true, elemsOf]
  rw [if_pos (by rw [flatK_len]; omega), if_neg (by omega), elems_flatK]
/-- A font whose kerns are a row of one's own. -/
@[reducible] def fRow (f : Font) (n : Int) : PV := .agg [pint .i64 f.space, pint .i64 f.digit, pint .i64 f.mark, pint .i64 f.bold, .row n 3 f.kerns.length]
theorem frz_fRow (f : Font) (n : Int) : frz n (flatK f.kerns) (fRow f n) = foP f := by
  simp only [frz, List.map_cons, List.map_nil]
  rw [frz_ks]
  simp only [frz1]
theorem Px_font {G : Globs} {n : Int} {t1 : TypeId} (f : Font) : Px G (fRow f n) [(n, ⟨t1, true, 3, flatK f.kerns⟩)] (foP f) [] := by
  have h := Px.freeze (G := G) (fRow f n) [(n, ⟨t1, true, 3, flatK f.kerns⟩)] n (o := ⟨t1, true, 3, flatK f.kerns⟩) (by simp only [look, if_true]) (by simp [frzOk, del])
  simp only [frz_fRow] at h
  simpa [frzH, del] using h
section
variable {P : Program} {G : Globs} {E : Amb} {A : Nat → Prop} {σ : PState} {a : Act} {w : World} {q : Bool} {I : List Int}
/-- A call by contract to which the object n is lent, to be read, also within arrays: what comes back names no memory. -/
theorem pcall_lendA {fn : FuncId} {args : List PV} {R : PV → Heap → Prop} {d : Option Tmp} {K : PState → Prop} (n : Int) (o : PObj) (hl : look σ.heap n = some o) (hc : PCalls P G fn (args.map (frz n o.cells)) [] R)
    (hk : ∀ res Hout, R res Hout → Hout = [] ∧ Flat res ∧ K (PState.put σ d res)) : @pcallI q P G σ d fn args ⟨K⟩ := by
  intro E A a w vals hs hsz hvals
  have hob := hs.objs n o (look_mem hl)
  have hA : ∀ b, A b → (A b ∨ (b : Int) = n) := fun b h => .inl h
  have hn : ∀ b : Nat, n = b → (A b ∨ (b : Int) = n) := fun b h => .inr h.symm
  refine (hc w (fun b => A b ∨ (b : Int) = n) (names σ.heap ++ E.F) vals ?_ (fun g => (hs.globs g).mono hA (fun _ _ _ _ h => h) (fun _ _ h => h)) (by simp) (by simp) (by simp) (by rw [List.length_map]; exact hsz) ?_).mono ?_
  · intro b hb
    rcases hb with h | h
    · exact hs.lt b h
    · exact (hs.own n o (look_mem hl) b h.symm).1
  · intro i p hp
    rw [List.getElem?_map] at hp
    cases hj : args[i]? with
    | none => rw [hj] at hp; cases hp
    | some p0 =>
      rw [hj] at hp
      cases hp
      obtain ⟨v, hv, hr⟩ := hvals i p0 hj
      exact ⟨v, hv, frz_rep hA hn hob hr⟩
  · rintro e w' ⟨v, A', res, Hout, rfl, hR, hr, hs'⟩
    obtain ⟨rfl, hflat, hK⟩ := hk res Hout hR
    exact ⟨v, _, _, rfl, hK, (hs.lent hl hs').put d (hflat.rep hr), fun _ => keeps_of_sim hs'⟩
/-- Of an object's cells only the first k are told. -/
theorem Wx.cut {n : Int} {e : TypeId} {es k : Nat} {cells fr : List PV} {H : Heap} : Wx G I ⟨fr, (n, ⟨e, true, es, cells⟩) :: H⟩ ⟨fr, (n, ⟨e, true, es, cells.take k⟩) :: H⟩ := by
  intro E hE A a w hs
  have tk : ∀ (j : Nat) (u : PV), (cells.take k)[j]? = some u → cells[j]? = some u := fun j u h => by
    rw [List.getElem?_take] at h
    split at h
    · exact h
    · cases h
  refine ⟨A, hs.ext, hs.lt, hs.a0, hs.a1, hs.globs, hs.nodup, fun m o h => ?_, fun m o h => ?_, fun m o h => ?_, hs.defers, hs.size, hs.frame⟩
  · rcases List.mem_cons.1 h with e1 | h
    · cases e1
      rcases hs.objs n _ List.mem_cons_self with ⟨g1, g2, g3⟩ | ⟨b, cur, fz, f, rfl, q1, q2, q3, q4⟩ | ⟨b, es', clock, rfl, q1, q2, _⟩ | ⟨b, x, ps, rfl, q1, q2, q3, _⟩
      · simp only at g3
        exact .inl ⟨g1, g2, by simp [g3]⟩
      · exact .inr (.inl ⟨b, cur, fz, f, rfl, q1, q2, ⟨q3.1, fun k1 => by cases k1⟩, fun j u hu => q4 j u (tk j u hu)⟩)
      · cases q2
      · cases q3
    · exact hs.objs m o (List.mem_cons_of_mem _ h)
  · rcases List.mem_cons.1 h with e1 | h
    · cases e1
      exact hs.own n _ List.mem_cons_self
    · exact hs.own m o (List.mem_cons_of_mem _ h)
  · rcases List.mem_cons.1 h with e1 | h
    · cases e1
      exact hs.neg n _ List.mem_cons_self
    · exact hs.neg m o (List.mem_cons_of_mem _ h)
end
/-- The character with a number: a letter's text or another one. -/
def othL : List UInt8 := [32, 49, 45, 46, 48]
def chrF (a : List Ltr) (n : Nat) : List UInt8 := if n % (a.length + 5) < a.length then (a.getD (n % (a.length + 5)) default).text else (othL.take (n % (a.length + 5) - a.length + 1)).drop (n % (a.length + 5) - a.length)
theorem chrF_len {a : List Ltr} (h : ∀ x ∈ a, 1 ≤ x.text.length ∧ x.text.length ≤ 4) (n : Nat) : 1 ≤ (chrF a n).length ∧ (chrF a n).length ≤ 4 := by
  have hm : n % (a.length + 5) < a.length + 5 := Nat.mod_lt _ (by omega)
  unfold chrF
  split
  · rename_i hl
    rw [List.getD_eq_getElem?_getD, List.getElem?_eq_getElem hl]
    exact h _ (List.getElem_mem hl)
  · rw [List.length_drop, List.length_take]
    simp only [othL, List.length_cons, List.length_nil]
    omega
attribute [local irreducible] W PCalls pcall pcallI WL
set_option maxRecDepth 100000
set_option maxHeartbeats 8000000
theorem character_c (G : Globs) (a : List Ltr) (n : Nat) (ha : a.length ≤ 1000000) (hn : n ≤ 1000000000) : PCalls Tryd.prog G 38 [ltsP a, pn n] [] (fun res H => res = pstr (chrF a n) ∧ H = []) := by
  have hm : n % (a.length + 5) < a.length + 5 := Nat.mod_lt _ (by omega)
  have e1 : ((n : Int)).tmod (a.length + 5) = ((n % (a.length + 5) : Nat) : Int) := by
    rw [Int.tmod_eq_emod_of_nonneg (by omega)]
    rfl
  unfold chrF
  generalize n % (a.length + 5) = k at *
  by_cases hk : k < a.length
  · rw [if_pos hk]
    have hget : a[k]? = some a[k] := List.getElem?_eq_getElem hk
    have hd : a.getD k default = a[k] := by rw [List.getD_eq_getElem?_getD, hget]; rfl
    rw [hd]
    (refine PCalls_f Tryd.func38 rfl Tryd.ntmps38 Tryd.results38 (by simp) fun fin hfin => ?_; have hnm : True := trivial; simp (maxSteps := 2000000) (disch := omega) only [evb, evd, eve, constPV, seqK, blockK, scopeK, pbound, pelems, PV.mem?, PV.one, PV.cells, peqs, peq1, pkeys, pkeyt, List.set, Value.cells, ↓popG_eq, ↓pop.eq_1, ↓List.getElem?_map, ↓List.getElem?_cons_zero, ↓List.getElem?_cons_succ, Value.oneCell', Nat.reduceAdd, Nat.reduceMul, Nat.reduceSub, Nat.reduceLeDiff, Nat.reduceEqDiff, ↓reduceIte, ne_eq, reduceCtorEq, forall_const, exists_and_left, exists_eq_left', eq_self, Nat.reduceLT, Int.reduceLT, Int.reduceLE, Int.reduceToNat, Int.reduceAdd, Int.reduceSub, Int.reduceNeg, hnm, Tryd.tf0, Tryd.tf3, Tryd.tf4, Tryd.tf9, Tryd.tf23, Tryd.tf60])
    repeat' (first
    | (with_reducible apply W_seq_k; intro nx hnx)
    | (with_reducible first | apply W_block | apply W_scope)
    | (with_reducible refine W_prune 115 ?_; simp only [prb, Nat.reducePow, Nat.reduceDiv, Nat.reduceMod, Nat.reduceBEq]; with_reducible apply W_region_l)
    | ((first | (with_reducible apply WL_op; intro nx hnx) | with_reducible refine Ev_out ?_); try (simp (maxSteps := 2000000) (disch := omega) only [evb, evd, eve, constPV, seqK, blockK, scopeK, pbound, pelems, PV.mem?, PV.one, PV.cells, peqs, peq1, pkeys, pkeyt, List.set, Value.cells, ↓popG_eq, ↓pop.eq_1, ↓List.getElem?_map, ↓List.getElem?_cons_zero, ↓List.getElem?_cons_succ, Value.oneCell', Nat.reduceAdd, Nat.reduceMul, Nat.reduceSub, Nat.reduceLeDiff, Nat.reduceEqDiff, ↓reduceIte, ne_eq, reduceCtorEq, forall_const, exists_and_left, exists_eq_left', eq_self, Nat.reduceLT, Int.reduceLT, Int.reduceLE, Int.reduceToNat, Int.reduceAdd, Int.reduceSub, Int.reduceNeg, hnm, Tryd.tf0, Tryd.tf3, Tryd.tf4, Tryd.tf9, Tryd.tf23, Tryd.tf60, e1, hget]); repeat (refine And.intro (by omega) ?_))
    | ((with_reducible first | apply WL_nil | apply W_label | apply W_skip | apply W_exit | apply W_ret); try simp only [seqK, blockK, scopeK, ↓reduceIte, Nat.reduceEqDiff])
    | (with_reducible apply W_cond_k; intro _ _ ea eb; (simp only [condK, cob, opnd, constPV, Nat.reduceEqDiff, Nat.reduceLT, ↓reduceIte, hcb, reduceCtorEq, forall_const, ne_eq]); subst ea eb; first | (refine ⟨fun hc => ?_, fun hc => ?_⟩ <;> first | (exfalso; omega) | (exfalso; exact hc trivial) | skip) | skip)
    | (with_reducible apply hnx; clear hnx nx)
    | (with_reducible refine And.intro (by omega) ?_)
    | (with_reducible refine And.intro ?_ ?_)
    | (clear hnx nx; with_reducible apply hnx; clear hnx nx)
    | (clear hnx nx; clear hnx nx; with_reducible apply hnx; clear hnx nx))
    all_goals first | exact absurd trivial hc | contradiction | exact fun h => False.elim h | (exfalso; omega) | (exfalso; have hc := of_decide_eq_false hc; omega) | (exfalso; simp only [Bool.not_false, Bool.not_true, decide_eq_true_eq, decide_eq_false_iff_not] at *; omega) | skip
    all_goals
      refine hfin _ _ (Fin_ret1 rfl (Sub_nil _) ?_); simp only [List.getD_cons_zero, List.getD_cons_succ, fr_getD_cons, fr_getD_nil, Nat.reduceEqDiff, Nat.reduceLT, ↓reduceIte]
      exact ⟨by first | rfl | trivial, by trivial⟩
  · rw [if_neg hk]
    (refine PCalls_f Tryd.func38 rfl Tryd.ntmps38 Tryd.results38 (by simp) fun fin hfin => ?_; have hnm : True := trivial; simp (maxSteps := 2000000) (disch := omega) only [evb, evd, eve, constPV, seqK, blockK, scopeK, pbound, pelems, PV.mem?, PV.one, PV.cells, peqs, peq1, pkeys, pkeyt, List.set, Value.cells, ↓popG_eq, ↓pop.eq_1, ↓List.getElem?_map, ↓List.getElem?_cons_zero, ↓List.getElem?_cons_succ, Value.oneCell', Nat.reduceAdd, Nat.reduceMul, Nat.reduceSub, Nat.reduceLeDiff, Nat.reduceEqDiff, ↓reduceIte, ne_eq, reduceCtorEq, forall_const, exists_and_left, exists_eq_left', eq_self, Nat.reduceLT, Int.reduceLT, Int.reduceLE, Int.reduceToNat, Int.reduceAdd, Int.reduceSub, Int.reduceNeg, hnm, Tryd.tf0, Tryd.tf3, Tryd.tf4, Tryd.tf9, Tryd.tf23, Tryd.tf60])
    repeat' (first
    | (with_reducible apply W_seq_k; intro nx hnx)
    | (with_reducible first | apply W_block | apply W_scope)
    | (with_reducible refine W_prune 115 ?_; simp only [prb, Nat.reducePow, Nat.reduceDiv, Nat.reduceMod, Nat.reduceBEq]; with_reducible apply W_region_l)
    | ((first | (with_reducible apply WL_op; intro nx hnx) | with_reducible refine Ev_out ?_); try (simp (maxSteps := 2000000) (disch := omega) only [evb, evd, eve, constPV, seqK, blockK, scopeK, pbound, pelems, PV.mem?, PV.one, PV.cells, peqs, peq1, pkeys, pkeyt, List.set, Value.cells, ↓popG_eq, ↓pop.eq_1, ↓List.getElem?_map, ↓List.getElem?_cons_zero, ↓List.getElem?_cons_succ, Value.oneCell', Nat.reduceAdd, Nat.reduceMul, Nat.reduceSub, Nat.reduceLeDiff, Nat.reduceEqDiff, ↓reduceIte, ne_eq, reduceCtorEq, forall_const, exists_and_left, exists_eq_left', eq_self, Nat.reduceLT, Int.reduceLT, Int.reduceLE, Int.reduceToNat, Int.reduceAdd, Int.reduceSub, Int.reduceNeg, hnm, Tryd.tf0, Tryd.tf3, Tryd.tf4, Tryd.tf9, Tryd.tf23, Tryd.tf60, e1]); repeat (refine And.intro (by omega) ?_))
    | ((with_reducible first | apply WL_nil | apply W_label | apply W_skip | apply W_exit | apply W_ret); try simp only [seqK, blockK, scopeK, ↓reduceIte, Nat.reduceEqDiff])
    | (with_reducible apply W_cond_k; intro _ _ ea eb; (simp only [condK, cob, opnd, constPV, Nat.reduceEqDiff, Nat.reduceLT, ↓reduceIte, hcb, reduceCtorEq, forall_const, ne_eq]); subst ea eb; first | (refine ⟨fun hc => ?_, fun hc => ?_⟩ <;> first | (exfalso; omega) | (exfalso; exact hc trivial) | skip) | skip)
    | (with_reducible apply hnx; clear hnx nx)
    | (with_reducible refine And.intro (by omega) ?_)
    | (with_reducible refine And.intro ?_ ?_)
    | (clear hnx nx; with_reducible apply hnx; clear hnx nx)
    | (clear hnx nx; clear hnx nx; with_reducible apply hnx; clear hnx nx))
    all_goals first | exact absurd trivial hc | contradiction | exact fun h => False.elim h | (exfalso; omega) | (exfalso; have hc := of_decide_eq_false hc; omega) | (exfalso; simp only [Bool.not_false, Bool.not_true, decide_eq_true_eq, decide_eq_false_iff_not] at *; omega) | skip
    all_goals
      refine hfin _ _ (Fin_ret1 rfl (Sub_nil _) ?_); simp only [List.getD_cons_zero, List.getD_cons_succ, fr_getD_cons, fr_getD_nil, Nat.reduceEqDiff, Nat.reduceLT, ↓reduceIte]
      refine ⟨?_, by trivial⟩
      rw [show ((k : Int) - a.length).toNat = k - a.length by omega, show ((k : Int) - a.length + 1).toNat = k - a.length + 1 by omega]
      rfl
theorem Fin_font {x : Tmp} {n : Int} {p q r t u : PV} {R : PV → Heap → Prop} {σ : PState} {H : Heap} (hx : σ.frame.getD x .junk = .ptr n 0) (hl : look σ.heap n = some ⟨27, false, 0, [p, q, r, t, u]⟩) (h2 : Sub H σ.heap) (h3 : R (.agg [p, q, r, t, u]) H) : Fin Tryd.prog [.cell x 27] R .ret σ := by
  refine Fin_cell (res := .agg [p, q, r, t, u]) Tryd.tf27 (n := n) (off := 0) (o := ⟨27, false, 0, [p, q, r, t, u]⟩) hx hl ?_ h2 h3
  simp [pload]
end Go.PM

namespace Go.PM
open Go.Proofs
attribute [local irreducible] W PCalls pcall pcallI WL
/-- The numbers of a font that is made. -/
def fontB (l : List Int) : Font := if atF l 4 9 = 0 then ⟨1000, 1 + atF l 1 12, 1 + atF l 2 9, 50, []⟩ else ⟨1 + atF l 0 12, 1 + atF l 1 12, 1 + atF l 2 9, 90 + atF l 3 60, []⟩
def kernI (a : List Ltr) (l : List Int) (i : Nat) : Kern := ⟨chrF a (atF l (3 * i + 6) 1000).toNat, chrF a (atF l (3 * i + 7) 1000).toNat, 1 + atF l (3 * i + 8) 14⟩
def growK (a : List Ltr) (l : List Int) : Nat → List Kern
  | 0 => []
  | i + 1 => if okFont { fontB l with kerns := growK a l i ++ [kernI a l i] } then growK a l i ++ [kernI a l i] else growK a l i
def fontF (a : List Ltr) (l : List Int) : Font := { fontB l with kerns := growK a l (atF l 5 7).toNat }
theorem growK_len (a : List Ltr) (l : List Int) : ∀ i, (growK a l i).length ≤ i
  | 0 => Nat.le_refl _
  | i + 1 => by
    have := growK_len a l i
    unfold growK
    split
    · rw [List.length_append, List.length_singleton]
      omega
    · omega
theorem fontB_num (l : List Int) : (1 ≤ (fontB l).space ∧ (fontB l).space ≤ 1000) ∧ (1 ≤ (fontB l).digit ∧ (fontB l).digit ≤ 1000) ∧ (1 ≤ (fontB l).mark ∧ (fontB l).mark ≤ 1000) ∧ (50 ≤ (fontB l).bold ∧ (fontB l).bold ≤ 400) := by
  have h0 := atF_bound l 0 (most := 12) (by omega)
  have h1 := atF_bound l 1 (most := 12) (by omega)
  have h2 := atF_bound l 2 (most := 9) (by omega)
  have h3 := atF_bound l 3 (most := 60) (by omega)
  unfold fontB
  split <;> simp only <;> omega
theorem growK_ok (a : List Ltr) (l : List Int) : ∀ i, okFont { fontB l with kerns := growK a l i } = true
  | 0 => by
    obtain ⟨h1, h2, h3, h4⟩ := fontB_num l
    rw [okFont_iff]
    exact ⟨h1, h2, h3, h4, by simp [growK], by simp [growK], by simp [growK, pairs]⟩
  | i + 1 => by
    have ih := growK_ok a l i
    unfold growK
    split
    · assumption
    · exact ih
theorem fontF_ok (a : List Ltr) (l : List Int) : okFont (fontF a l) = true := growK_ok a l _
theorem ok_HF {f : Font} (h : okFont f = true) : HF f := by
  obtain ⟨h1, h2, h3, h4, h5, h6, _⟩ := (okFont_iff f).1 h
  refine ⟨⟨by omega, by omega, by omega, by omega⟩, by omega, fun k hk => ?_⟩
  have := (okKern_iff k).1 (List.all_eq_true.1 h6 k hk)
  omega
set_option maxRecDepth 100000
set_option maxHeartbeats 8000000
theorem font_loop (G : Globs) (a : List Ltr) (l : List Int) (ha : a.length ≤ 1000000) (hax : ∀ x ∈ a, 1 ≤ x.text.length ∧ x.text.length ≤ 4) (hl : okI l) (rs fo kn0 : Int) (m : Nat) (hm : (m : Int) < 7) (K : Exit → PState → Prop)
    (hK : ∀ (kn : Int) (ex : List PV), [kn, fo, rs].Nodup → ∀ σ, Wk σ ⟨fr 73 [(5, .ptr fo 0), (4, .ptr rs 0)], [(kn, ⟨68, true, 3, flatK (growK a l m) ++ ex⟩), (fo, ⟨27, false, 0, [pint .i64 (fontB l).space, pint .i64 (fontB l).digit, pint .i64 (fontB l).mark, pint .i64 (fontB l).bold, .row kn 3 (growK a l m).length]⟩), (rs, ⟨27, false, 0, [pint .i64 0, pint .i64 0, pint .i64 0, pint .i64 0, pnil]⟩)]⟩ → K (.exit 0) σ)
    (h0 : [kn0, fo, rs].Nodup) :
    W Tryd.prog G [] (nav (Tryd.f11.body.getD .skip) [1, 1, 1, 1, 0, 1, 0]) ⟨fr 73 [(7, pn 0), (6, pn m), (5, .ptr fo 0), (4, .ptr rs 0), (1, wP l), (0, ltsP a)], [(kn0, ⟨68, true, 3, []⟩), (fo, ⟨27, false, 0, [pint .i64 (fontB l).space, pint .i64 (fontB l).digit, pint .i64 (fontB l).mark, pint .i64 (fontB l).bold, .row kn0 3 0]⟩), (rs, ⟨27, false, 0, [pint .i64 0, pint .i64 0, pint .i64 0, pint .i64 0, pnil]⟩)]⟩ K := by
  simp only [Tryd.f11, nav, Option.getD_some]
  refine W_loop_k (fun z τ => ∃ (i : Nat) (kn : Int) (ex : List PV), i ≤ m ∧ z = m - i ∧ [kn, fo, rs].Nodup ∧ τ = ⟨fr 73 [(7, pn i), (6, pn m), (5, .ptr fo 0), (4, .ptr rs 0), (1, wP l), (0, ltsP a)], [(kn, ⟨68, true, 3, flatK (growK a l i) ++ ex⟩), (fo, ⟨27, false, 0, [pint .i64 (fontB l).space, pint .i64 (fontB l).digit, pint .i64 (fontB l).mark, pint .i64 (fontB l).bold, .row kn 3 (growK a l i).length]⟩), (rs, ⟨27, false, 0, [pint .i64 0, pint .i64 0, pint .i64 0, pint .i64 0, pnil]⟩)]⟩) m
    ⟨fr 73 [(7, pn 0), (6, pn m), (5, .ptr fo 0), (4, .ptr rs 0), (1, wP l), (0, ltsP a)], [(kn0, ⟨68, true, 3, []⟩), (fo, ⟨27, false, 0, [pint .i64 (fontB l).space, pint .i64 (fontB l).digit, pint .i64 (fontB l).mark, pint .i64 (fontB l).bold, .row kn0 3 0]⟩), (rs, ⟨27, false, 0, [pint .i64 0, pint .i64 0, pint .i64 0, pint .i64 0, pnil]⟩)]⟩ (by
    refine Wk_fr (by simp only [wkb, Nat.reduceEqDiff, Nat.reduceLT, ↓reduceIte, pn]) ?_
    exact Sub_refl h0) ⟨0, kn0, [], by omega, by omega, h0, rfl⟩ ?_
  rintro z τ ⟨i, kn, ex, hi, rfl, hnn, rfl⟩ lp hlp
  have hnm := hnn
  simp only [List.nodup_cons, dis_cons, dis_nil, List.nodup_nil, and_true] at hnm
  by_cases him : i < m
  · refine W_x (Wx.cut (k := (growK a l i).length * 3)) ?_
    have hgl := growK_len a l i
    rw [List.take_left' (flatK_len _)]
    have d1 := at_c G l hl (3 * i + 6) 1000 (by omega) (by omega)
    have d2 := at_c G l hl (3 * i + 7) 1000 (by omega) (by omega)
    have d3 := at_c G l hl (3 * i + 8) 14 (by omega) (by omega)
    have b1 := atF_bound l (3 * i + 6) (most := 1000) (by omega)
    have b2 := atF_bound l (3 * i + 7) (most := 1000) (by omega)
    have b3 := atF_bound l (3 * i + 8) (most := 14) (by omega)
    have hki : kernI a l i = ⟨chrF a (atF l (3 * i + 6) 1000).toNat, chrF a (atF l (3 * i + 7) 1000).toNat, 1 + atF l (3 * i + 8) 14⟩ := rfl
    obtain ⟨y1, hy1⟩ : ∃ y : Nat, atF l (3 * i + 6) 1000 = y := ⟨(atF l (3 * i + 6) 1000).toNat, by omega⟩
    obtain ⟨y2, hy2⟩ : ∃ y : Nat, atF l (3 * i + 7) 1000 = y := ⟨(atF l (3 * i + 7) 1000).toNat, by omega⟩
    rw [hy1] at d1 b1 hki
    rw [hy2] at d2 b2 hki
    generalize atF l (3 * i + 8) 14 = y3 at *
    simp only [pn, Int.natCast_add, Int.natCast_mul, Int.cast_ofNat_Int] at d1 d2 d3
    have e1 := character_c G a y1 ha (by omega)
    have e2 := character_c G a y2 ha (by omega)
    have l1 := chrF_len hax y1
    have l2 := chrF_len hax y2
    rw [show ((y1 : Int)).toNat = y1 from rfl, show ((y2 : Int)).toNat = y2 from rfl] at hki
    generalize chrF a y1 = t1 at *
    generalize chrF a y2 = t2 at *
    have hgr : growK a l (i + 1) = if okFont { fontB l with kerns := growK a l i ++ [kernI a l i] } then growK a l i ++ [kernI a l i] else growK a l i := rfl
    have hHF : HF { fontB l with kerns := growK a l i ++ [kernI a l i] } := by
      obtain ⟨q1, q2, q3⟩ := ok_HF (growK_ok a l i)
      refine ⟨q1, by simp only [List.length_append, List.length_singleton]; omega, fun k hk => ?_⟩
      rcases List.mem_append.1 hk with h | h
      · exact q3 k h
      · simp only [List.mem_singleton] at h
        subst h
        rw [hki]
        simp only
        omega
    have hv := rfvalid_c G _ hHF
    rw [hki] at hgr hv
    generalize okFont { fontB l with kerns := growK a l i ++ [⟨t1, t2, 1 + y3⟩] } = vv at *
    have hcc : ∀ n : Int, PCalls Tryd.prog G 17 (List.map (frz n (flatK (growK a l i) ++ [pstr t1, pstr t2, pint .i64 (1 + y3)])) [.agg [pint .i64 (fontB l).space, pint .i64 (fontB l).digit, pint .i64 (fontB l).mark, pint .i64 (fontB l).bold, .row n 3 ((growK a l i).length + 1)]]) [] (fun res H => res = pbool vv ∧ H = []) := fun n => by
      have h1 := frz_fRow { fontB l with kerns := growK a l i ++ [⟨t1, t2, 1 + y3⟩] } n
      simp only [flatK_snoc, fRow, List.length_append, List.length_singleton] at h1
      rw [List.map_cons, List.map_nil, h1]
      exact hv
    have hfl := flatK_len (growK a l i)
    generalize growK a l i = ks at *
    obtain ⟨nsp, ndi, nma, nbo⟩ := fontB_num l
    generalize (fontB l).space = sp at *
    generalize (fontB l).digit = di at *
    generalize (fontB l).mark = ma at *
    generalize (fontB l).bold = bo at *
    repeat' (first
    | (with_reducible apply W_seq_k; intro nx hnx)
    | (with_reducible first | apply W_block | apply W_scope)
    | (with_reducible refine W_prune 499 ?_; simp only [prb, Nat.reducePow, Nat.reduceDiv, Nat.reduceMod, Nat.reduceBEq]; with_reducible apply W_region_l)
    | ((first | (with_reducible apply WL_op; intro nx hnx) | with_reducible refine Ev_out ?_ | (with_reducible refine pfresh_k hnm fun nm hnm => ?_; (try simp only [fmb] at hnm)) | (with_reducible refine pborn_mu hnm fun nm hnm => ?_; (try simp only [fmb] at hnm))); try (simp (maxSteps := 2000000) (disch := omega) only [evb, evd, eve, constPV, seqK, blockK, scopeK, pbound, pelems, PV.mem?, PV.one, PV.cells, peqs, peq1, pkeys, pkeyt, List.set, Value.cells, ↓popG_eq, ↓pop.eq_1, ↓List.getElem?_map, ↓List.getElem?_cons_zero, ↓List.getElem?_cons_succ, Value.oneCell', Nat.reduceAdd, Nat.reduceMul, Nat.reduceSub, Nat.reduceLeDiff, Nat.reduceEqDiff, ↓reduceIte, ne_eq, reduceCtorEq, forall_const, exists_and_left, exists_eq_left', eq_self, Nat.reduceLT, Int.reduceLT, Int.reduceLE, Int.reduceToNat, Int.reduceAdd, Int.reduceSub, Int.reduceNeg, hnm, Tryd.tf0, Tryd.tf1, Tryd.tf3, Tryd.tf4, Tryd.tf9, Tryd.tf22, Tryd.tf23, Tryd.tf25, Tryd.tf27, Tryd.tf60, Tryd.tf68, Tryd.call17, Tryd.call36, Tryd.call38, hfl]); repeat (refine And.intro (by omega) ?_))
    | ((with_reducible first | apply WL_nil | apply W_label | apply W_skip | apply W_exit | apply W_ret); try simp only [seqK, blockK, scopeK, ↓reduceIte, Nat.reduceEqDiff])
    | (with_reducible apply W_cond_k; intro _ _ ea eb; (simp only [condK, cob, opnd, constPV, Nat.reduceEqDiff, Nat.reduceLT, ↓reduceIte, hcb, reduceCtorEq, forall_const, ne_eq]); subst ea eb; first | (refine ⟨fun hc => ?_, fun hc => ?_⟩ <;> first | (exfalso; omega) | (exfalso; exact hc trivial) | skip) | skip)
    | (with_reducible apply hnx; clear hnx nx)
    | (with_reducible refine And.intro (by omega) ?_)
    | (with_reducible refine And.intro ?_ ?_)
    | (with_reducible refine pcall_k (d1) ?_; rintro _ _ ⟨rfl, rfl⟩ -; refine Ev_in ?_)
    | (with_reducible refine pcall_k (d2) ?_; rintro _ _ ⟨rfl, rfl⟩ -; refine Ev_in ?_)
    | (with_reducible refine pcall_k (d3) ?_; rintro _ _ ⟨rfl, rfl⟩ -; refine Ev_in ?_)
    | (with_reducible refine pcall_k (e1) ?_; rintro _ _ ⟨rfl, rfl⟩ -; refine Ev_in ?_)
    | (with_reducible refine pcall_k (e2) ?_; rintro _ _ ⟨rfl, rfl⟩ -; refine Ev_in ?_)
    | (refine pcall_lendA nm ⟨68, true, 3, flatK ks ++ [pstr t1, pstr t2, pint .i64 (1 + y3)]⟩ (by simp only [look, hnm, ↓reduceIte]) (hcc nm) ?_; rintro _ _ ⟨rfl, rfl⟩; refine ⟨rfl, .val _, ?_⟩; refine Ev_in ?_)
    | (clear hnx nx; with_reducible apply hnx; clear hnx nx)
    | (clear hnx nx; clear hnx nx; with_reducible apply hnx; clear hnx nx))
    all_goals first | exact absurd trivial hc | contradiction | exact fun h => False.elim h | (exfalso; omega) | (exfalso; have hc := of_decide_eq_false hc; omega) | (exfalso; simp only [Bool.not_false, Bool.not_true, decide_eq_true_eq, decide_eq_false_iff_not] at *; omega) | skip
    · rw [hc] at hgr
      refine hlp _ (m - (i + 1)) ⟨fr 73 [(7, pn (i + 1)), (6, pn m), (5, .ptr fo 0), (4, .ptr rs 0), (1, wP l), (0, ltsP a)], [(nm, ⟨68, true, 3, flatK (growK a l (i + 1)) ++ [pstr t1, pstr t2, pint .i64 (1 + y3)]⟩), (fo, ⟨27, false, 0, [pint .i64 sp, pint .i64 di, pint .i64 ma, pint .i64 bo, .row nm 3 (growK a l (i + 1)).length]⟩), (rs, ⟨27, false, 0, [pint .i64 0, pint .i64 0, pint .i64 0, pint .i64 0, pnil]⟩)]⟩ (by omega) ?_ ⟨i + 1, nm, _, by omega, rfl, by simp [hnm], rfl⟩
      rw [hgr, if_neg (by simp)]
      refine Wk_fr (by simp only [wkb, Nat.reduceEqDiff, Nat.reduceLT, ↓reduceIte, pn]) ?_
      exact ⟨by simp, by simp [names, hnm]⟩
    · rw [hc] at hgr
      refine hlp _ (m - (i + 1)) ⟨fr 73 [(7, pn (i + 1)), (6, pn m), (5, .ptr fo 0), (4, .ptr rs 0), (1, wP l), (0, ltsP a)], [(nm, ⟨68, true, 3, flatK (growK a l (i + 1)) ++ []⟩), (fo, ⟨27, false, 0, [pint .i64 sp, pint .i64 di, pint .i64 ma, pint .i64 bo, .row nm 3 (growK a l (i + 1)).length]⟩), (rs, ⟨27, false, 0, [pint .i64 0, pint .i64 0, pint .i64 0, pint .i64 0, pnil]⟩)]⟩ (by omega) ?_ ⟨i + 1, nm, _, by omega, rfl, by simp [hnm], rfl⟩
      rw [hgr, if_pos rfl, flatK_snoc, List.append_nil]
      refine Wk_fr (by simp only [wkb, Nat.reduceEqDiff, Nat.reduceLT, ↓reduceIte, pn]) ?_
      exact ⟨by simp, by simp [names, hnm]⟩
  · have hi2 : i = m := by omega
    subst hi2
    repeat' (first
    | (with_reducible apply W_seq_k; intro nx hnx)
    | (with_reducible first | apply W_block | apply W_scope)
    | (with_reducible refine W_prune 499 ?_; simp only [prb, Nat.reducePow, Nat.reduceDiv, Nat.reduceMod, Nat.reduceBEq]; with_reducible apply W_region_l)
    | ((first | (with_reducible apply WL_op; intro nx hnx) | with_reducible refine Ev_out ?_ | (with_reducible refine pfresh_k hnm fun nm hnm => ?_; (try simp only [fmb] at hnm)) | (with_reducible refine pborn_mu hnm fun nm hnm => ?_; (try simp only [fmb] at hnm))); try (simp (maxSteps := 2000000) (disch := omega) only [evb, evd, eve, constPV, seqK, blockK, scopeK, pbound, pelems, PV.mem?, PV.one, PV.cells, peqs, peq1, pkeys, pkeyt, List.set, Value.cells, ↓popG_eq, ↓pop.eq_1, ↓List.getElem?_map, ↓List.getElem?_cons_zero, ↓List.getElem?_cons_succ, Value.oneCell', Nat.reduceAdd, Nat.reduceMul, Nat.reduceSub, Nat.reduceLeDiff, Nat.reduceEqDiff, ↓reduceIte, ne_eq, reduceCtorEq, forall_const, exists_and_left, exists_eq_left', eq_self, Nat.reduceLT, Int.reduceLT, Int.reduceLE, Int.reduceToNat, Int.reduceAdd, Int.reduceSub, Int.reduceNeg, hnm, Tryd.tf0, Tryd.tf1, Tryd.tf3, Tryd.tf4, Tryd.tf9, Tryd.tf22, Tryd.tf23, Tryd.tf25, Tryd.tf27, Tryd.tf60, Tryd.tf68, Tryd.call17, Tryd.call36, Tryd.call38]); repeat (refine And.intro (by omega) ?_))
    | ((with_reducible first | apply WL_nil | apply W_label | apply W_skip | apply W_exit | apply W_ret); try simp only [seqK, blockK, scopeK, ↓reduceIte, Nat.reduceEqDiff])
    | (with_reducible apply W_cond_k; intro _ _ ea eb; (simp only [condK, cob, opnd, constPV, Nat.reduceEqDiff, Nat.reduceLT, ↓reduceIte, hcb, reduceCtorEq, forall_const, ne_eq]); subst ea eb; first | (refine ⟨fun hc => ?_, fun hc => ?_⟩ <;> first | (exfalso; omega) | (exfalso; exact hc trivial) | skip) | skip)
    | (with_reducible apply hnx; clear hnx nx)
    | (with_reducible refine And.intro (by omega) ?_)
    | (with_reducible refine And.intro ?_ ?_)
    | (clear hnx nx; with_reducible apply hnx; clear hnx nx)
    | (clear hnx nx; clear hnx nx; with_reducible apply hnx; clear hnx nx))
    all_goals first | exact absurd trivial hc | contradiction | exact fun h => False.elim h | (exfalso; omega) | (exfalso; have hc := of_decide_eq_false hc; omega) | (exfalso; simp only [Bool.not_false, Bool.not_true, decide_eq_true_eq, decide_eq_false_iff_not] at *; omega) | skip
    refine hK kn ex hnn _ ?_
    refine Wk_fr (by simp only [wkb, Nat.reduceEqDiff, Nat.reduceLT, ↓reduceIte, pn]) ?_
    exact Sub_refl hnn
theorem font_r (G : Globs) (a : List Ltr) (l : List Int) (ha : a.length ≤ 1000000) (hax : ∀ x ∈ a, 1 ≤ x.text.length ∧ x.text.length ≤ 4) (hl : okI l) :
    PCalls Tryd.prog G 11 [ltsP a, wP l] [] (fun res H => ∃ n : Int, res = fRow (fontF a l) n ∧ H = [(n, ⟨68, true, 3, flatK (fontF a l).kerns⟩)]) := by
  have d0 := at_c G l hl 0 12 (by omega) (by omega)
  have d1 := at_c G l hl 1 12 (by omega) (by omega)
  have d2 := at_c G l hl 2 9 (by omega) (by omega)
  have d3 := at_c G l hl 3 60 (by omega) (by omega)
  have d4 := at_c G l hl 4 9 (by omega) (by omega)
  have d5 := at_c G l hl 5 7 (by omega) (by omega)
  have d0 : PCalls Tryd.prog G 36 [wP l, .val (.int .i64 0), .val (.int .i64 12)] [] _ := d0
  have d1 : PCalls Tryd.prog G 36 [wP l, .val (.int .i64 1), .val (.int .i64 12)] [] _ := d1
  have d2 : PCalls Tryd.prog G 36 [wP l, .val (.int .i64 2), .val (.int .i64 9)] [] _ := d2
  have d3 : PCalls Tryd.prog G 36 [wP l, .val (.int .i64 3), .val (.int .i64 60)] [] _ := d3
  have d4 : PCalls Tryd.prog G 36 [wP l, .val (.int .i64 4), .val (.int .i64 9)] [] _ := d4
  have d5 : PCalls Tryd.prog G 36 [wP l, .val (.int .i64 5), .val (.int .i64 7)] [] _ := d5
  have b0 := atF_bound l 0 (most := 12) (by omega)
  have b1 := atF_bound l 1 (most := 12) (by omega)
  have b2 := atF_bound l 2 (most := 9) (by omega)
  have b3 := atF_bound l 3 (most := 60) (by omega)
  have b4 := atF_bound l 4 (most := 9) (by omega)
  have b5 := atF_bound l 5 (most := 7) (by omega)
  unfold fontF
  have hB : fontB l = if atF l 4 9 = 0 then ⟨1000, 1 + atF l 1 12, 1 + atF l 2 9, 50, []⟩ else ⟨1 + atF l 0 12, 1 + atF l 1 12, 1 + atF l 2 9, 90 + atF l 3 60, []⟩ := rfl
  obtain ⟨m, hm⟩ : ∃ m : Nat, atF l 5 7 = m := ⟨(atF l 5 7).toNat, by omega⟩
  rw [hm] at d5 b5 ⊢
  rw [show ((m : Int)).toNat = m from rfl]
  generalize atF l 0 12 = x0 at *
  generalize atF l 1 12 = x1 at *
  generalize atF l 2 9 = x2 at *
  generalize atF l 3 60 = x3 at *
  generalize atF l 4 9 = x4 at *
  (refine PCalls_f Tryd.func11 rfl Tryd.ntmps11 Tryd.results11 (by simp) fun fin hfin => ?_; have hnm : True := trivial; simp (maxSteps := 2000000) (disch := omega) only [evb, evd, eve, constPV, seqK, blockK, scopeK, pbound, pelems, PV.mem?, PV.one, PV.cells, peqs, peq1, pkeys, pkeyt, List.set, Value.cells, ↓popG_eq, ↓pop.eq_1, ↓List.getElem?_map, ↓List.getElem?_cons_zero, ↓List.getElem?_cons_succ, Value.oneCell', Nat.reduceAdd, Nat.reduceMul, Nat.reduceSub, Nat.reduceLeDiff, Nat.reduceEqDiff, ↓reduceIte, ne_eq, reduceCtorEq, forall_const, exists_and_left, exists_eq_left', eq_self, Nat.reduceLT, Int.reduceLT, Int.reduceLE, Int.reduceToNat, Int.reduceAdd, Int.reduceSub, Int.reduceNeg, hnm, Tryd.tf0, Tryd.tf1, Tryd.tf3, Tryd.tf4, Tryd.tf9, Tryd.tf22, Tryd.tf23, Tryd.tf25, Tryd.tf27, Tryd.tf60, Tryd.tf68, Tryd.call17, Tryd.call36, Tryd.call38])
  repeat' (first
    | (with_reducible apply W_seq_k; intro nx hnx)
    | (with_reducible first | apply W_block | apply W_scope)
    | (with_reducible refine W_prune 499 ?_; simp only [prb, Nat.reducePow, Nat.reduceDiv, Nat.reduceMod, Nat.reduceBEq]; with_reducible apply W_region_l)
    | ((first | (with_reducible apply WL_op; intro nx hnx) | with_reducible refine Ev_out ?_ | (with_reducible refine pfresh_k hnm fun nm hnm => ?_; (try simp only [fmb] at hnm)) | (with_reducible refine pborn_mu hnm fun nm hnm => ?_; (try simp only [fmb] at hnm))); try (simp (maxSteps := 2000000) (disch := omega) only [evb, evd, eve, constPV, seqK, blockK, scopeK, pbound, pelems, PV.mem?, PV.one, PV.cells, peqs, peq1, pkeys, pkeyt, List.set, Value.cells, ↓popG_eq, ↓pop.eq_1, ↓List.getElem?_map, ↓List.getElem?_cons_zero, ↓List.getElem?_cons_succ, Value.oneCell', Nat.reduceAdd, Nat.reduceMul, Nat.reduceSub, Nat.reduceLeDiff, Nat.reduceEqDiff, ↓reduceIte, ne_eq, reduceCtorEq, forall_const, exists_and_left, exists_eq_left', eq_self, Nat.reduceLT, Int.reduceLT, Int.reduceLE, Int.reduceToNat, Int.reduceAdd, Int.reduceSub, Int.reduceNeg, hnm, Tryd.tf0, Tryd.tf1, Tryd.tf3, Tryd.tf4, Tryd.tf9, Tryd.tf22, Tryd.tf23, Tryd.tf25, Tryd.tf27, Tryd.tf60, Tryd.tf68, Tryd.call17, Tryd.call36, Tryd.call38]); repeat (refine And.intro (by omega) ?_))
    | ((with_reducible first | apply WL_nil | apply W_label | apply W_skip | apply W_exit | apply W_ret); try simp only [seqK, blockK, scopeK, ↓reduceIte, Nat.reduceEqDiff])
    | (with_reducible apply W_cond_k; intro _ _ ea eb; (simp only [condK, cob, opnd, constPV, Nat.reduceEqDiff, Nat.reduceLT, ↓reduceIte, hcb, reduceCtorEq, forall_const, ne_eq]); subst ea eb; first | (refine ⟨fun hc => ?_, fun hc => ?_⟩ <;> first | (exfalso; omega) | (exfalso; exact hc trivial) | skip) | skip)
    | (with_reducible apply hnx; clear hnx nx)
    | (with_reducible refine And.intro (by omega) ?_)
    | (with_reducible refine And.intro ?_ ?_)
    | (with_reducible refine pcall_k (d0) ?_; rintro _ _ ⟨rfl, rfl⟩ -; refine Ev_in ?_)
    | (with_reducible refine pcall_k (d1) ?_; rintro _ _ ⟨rfl, rfl⟩ -; refine Ev_in ?_)
    | (with_reducible refine pcall_k (d2) ?_; rintro _ _ ⟨rfl, rfl⟩ -; refine Ev_in ?_)
    | (with_reducible refine pcall_k (d3) ?_; rintro _ _ ⟨rfl, rfl⟩ -; refine Ev_in ?_)
    | (with_reducible refine pcall_k (d4) ?_; rintro _ _ ⟨rfl, rfl⟩ -; refine Ev_in ?_)
    | (with_reducible refine pcall_k (d5) ?_; rintro _ _ ⟨rfl, rfl⟩ -; refine Ev_in ?_)
    | (clear hnx nx; with_reducible apply hnx; clear hnx nx)
    | (clear hnx nx; clear hnx nx; with_reducible apply hnx; clear hnx nx))
  all_goals first | exact absurd trivial hc | contradiction | exact fun h => False.elim h | (exfalso; omega) | (exfalso; have hc := of_decide_eq_false hc; omega) | (exfalso; simp only [Bool.not_false, Bool.not_true, decide_eq_true_eq, decide_eq_false_iff_not] at *; omega) | skip
  · rw [if_pos hc] at hB
    have hsp : (fontB l).space = 1000 := by rw [hB]
    have hdi : (fontB l).digit = 1 + x1 := by rw [hB]
    have hma : (fontB l).mark = 1 + x2 := by rw [hB]
    have hbo : (fontB l).bold = 50 := by rw [hB]
    rename_i rs hrs
    obtain ⟨fo, hfo⟩ : ∃ fo, fo = nm := ⟨_, rfl⟩
    rw [← hfo] at hnm ⊢
    clear hfo
    refine W_adopt_c fo 4 68 3 (o := ⟨27, false, 0, [pint .i64 (1000), pint .i64 (1 + x1), pint .i64 (1 + x2), pint .i64 (50), pnil]⟩) (by simp only [look, hnm, ↓reduceIte]) rfl fun kn hkn => ?_
    simp only [names, List.map_cons, List.map_nil, dis_cons, dis_nil, and_true] at hkn
    simp only [upd, hnm, hkn, ↓reduceIte, List.set_cons_succ, List.set_cons_zero]
    clear hrs
    have fl := fun K => font_loop G a l ha hax hl rs fo kn m b5.2 K
    simp only [Tryd.f11, nav, Option.getD_some, hsp, hdi, hma, hbo] at fl
    refine W_wk ?_ (fl _ (fun kn2 ex hnn σ hwk => ?_) (by simp [hnm, hkn]))
    · refine Wk_fr (by simp only [wkb, Nat.reduceEqDiff, Nat.reduceLT, ↓reduceIte, pn]) ?_
      exact ⟨by simp, by simp [names, hnm, hkn]⟩
    · refine hnx σ (W_wk hwk ?_)
      refine W_x (Wx.cut (k := (growK a l m).length * 3)) ?_
      rw [List.take_left' (flatK_len _)]
      clear hnm hkn
      have hnm := hnn
      simp only [List.nodup_cons, dis_cons, dis_nil, List.nodup_nil, and_true] at hnm
      repeat' (first
    | (with_reducible apply W_seq_k; intro nx hnx)
    | (with_reducible first | apply W_block | apply W_scope)
    | (with_reducible refine W_prune 499 ?_; simp only [prb, Nat.reducePow, Nat.reduceDiv, Nat.reduceMod, Nat.reduceBEq]; with_reducible apply W_region_l)
    | ((first | (with_reducible apply WL_op; intro nx hnx) | with_reducible refine Ev_out ?_ | (with_reducible refine pfresh_k hnm fun nm hnm => ?_; (try simp only [fmb] at hnm)) | (with_reducible refine pborn_mu hnm fun nm hnm => ?_; (try simp only [fmb] at hnm))); try (simp (maxSteps := 2000000) (disch := omega) only [evb, evd, eve, constPV, seqK, blockK, scopeK, pbound, pelems, PV.mem?, PV.one, PV.cells, peqs, peq1, pkeys, pkeyt, List.set, Value.cells, ↓popG_eq, ↓pop.eq_1, ↓List.getElem?_map, ↓List.getElem?_cons_zero, ↓List.getElem?_cons_succ, Value.oneCell', Nat.reduceAdd, Nat.reduceMul, Nat.reduceSub, Nat.reduceLeDiff, Nat.reduceEqDiff, ↓reduceIte, ne_eq, reduceCtorEq, forall_const, exists_and_left, exists_eq_left', eq_self, Nat.reduceLT, Int.reduceLT, Int.reduceLE, Int.reduceToNat, Int.reduceAdd, Int.reduceSub, Int.reduceNeg, hnm, Tryd.tf0, Tryd.tf1, Tryd.tf3, Tryd.tf4, Tryd.tf9, Tryd.tf22, Tryd.tf23, Tryd.tf25, Tryd.tf27, Tryd.tf60, Tryd.tf68, Tryd.call17, Tryd.call36, Tryd.call38]); repeat (refine And.intro (by omega) ?_))
    | ((with_reducible first | apply WL_nil | apply W_label | apply W_skip | apply W_exit | apply W_ret); try simp only [seqK, blockK, scopeK, ↓reduceIte, Nat.reduceEqDiff])
    | (with_reducible apply W_cond_k; intro _ _ ea eb; (simp only [condK, cob, opnd, constPV, Nat.reduceEqDiff, Nat.reduceLT, ↓reduceIte, hcb, reduceCtorEq, forall_const, ne_eq]); subst ea eb; first | (refine ⟨fun hc => ?_, fun hc => ?_⟩ <;> first | (exfalso; omega) | (exfalso; exact hc trivial) | skip) | skip)
    | (with_reducible apply hnx; clear hnx nx)
    | (with_reducible refine And.intro (by omega) ?_)
    | (with_reducible refine And.intro ?_ ?_)
    | (clear hnx nx; with_reducible apply hnx; clear hnx nx)
    | (clear hnx nx; clear hnx nx; with_reducible apply hnx; clear hnx nx))
      all_goals first | exact absurd trivial hc | contradiction | exact fun h => False.elim h | (exfalso; omega) | (exfalso; have hc := of_decide_eq_false hc; omega) | (exfalso; simp only [Bool.not_false, Bool.not_true, decide_eq_true_eq, decide_eq_false_iff_not] at *; omega) | skip
      all_goals
        refine hfin _ _ (Fin_font (H := [(kn2, ⟨68, true, 3, flatK (growK a l m)⟩)]) (by (try simp only [fr_getD_cons, fr_getD_nil, Nat.reduceEqDiff, Nat.reduceLT, ↓reduceIte]); first | done | rfl) (by (try simp only [look, hnm, ↓reduceIte]); first | done | rfl) ⟨by simp, by simp [names]⟩ ⟨kn2, by simp only [fRow, hsp, hdi, hma, hbo], rfl⟩)
  · rw [if_neg hc] at hB
    have hsp : (fontB l).space = 1 + x0 := by rw [hB]
    have hdi : (fontB l).digit = 1 + x1 := by rw [hB]
    have hma : (fontB l).mark = 1 + x2 := by rw [hB]
    have hbo : (fontB l).bold = 90 + x3 := by rw [hB]
    rename_i rs hrs
    obtain ⟨fo, hfo⟩ : ∃ fo, fo = nm := ⟨_, rfl⟩
    rw [← hfo] at hnm ⊢
    clear hfo
    refine W_adopt_c fo 4 68 3 (o := ⟨27, false, 0, [pint .i64 (1 + x0), pint .i64 (1 + x1), pint .i64 (1 + x2), pint .i64 (90 + x3), pnil]⟩) (by simp only [look, hnm, ↓reduceIte]) rfl fun kn hkn => ?_
    simp only [names, List.map_cons, List.map_nil, dis_cons, dis_nil, and_true] at hkn
    simp only [upd, hnm, hkn, ↓reduceIte, List.set_cons_succ, List.set_cons_zero]
    clear hrs
    have fl := fun K => font_loop G a l ha hax hl rs fo kn m b5.2 K
    simp only [Tryd.f11, nav, Option.getD_some, hsp, hdi, hma, hbo] at fl
    refine W_wk ?_ (fl _ (fun kn2 ex hnn σ hwk => ?_) (by simp [hnm, hkn]))
    · refine Wk_fr (by simp only [wkb, Nat.reduceEqDiff, Nat.reduceLT, ↓reduceIte, pn]) ?_
      exact ⟨by simp, by simp [names, hnm, hkn]⟩
    · refine hnx σ (W_wk hwk ?_)
      refine W_x (Wx.cut (k := (growK a l m).length * 3)) ?_
      rw [List.take_left' (flatK_len _)]
      clear hnm hkn
      have hnm := hnn
      simp only [List.nodup_cons, dis_cons, dis_nil, List.nodup_nil, and_true] at hnm
      repeat' (first
    | (with_reducible apply W_seq_k; intro nx hnx)
    | (with_reducible first | apply W_block | apply W_scope)
    | (with_reducible refine W_prune 499 ?_; simp only [prb, Nat.reducePow, Nat.reduceDiv, Nat.reduceMod, Nat.reduceBEq]; with_reducible apply W_region_l)
    | ((first | (with_reducible apply WL_op; intro nx hnx) | with_reducible refine Ev_out ?_ | (with_reducible refine pfresh_k hnm fun nm hnm => ?_; (try simp only [fmb] at hnm)) | (with_reducible refine pborn_mu hnm fun nm hnm => ?_; (try simp only [fmb] at hnm))); try (simp (maxSteps := 2000000) (disch := omega) only [evb, evd, eve, constPV, seqK, blockK, scopeK, pbound, pelems, PV.mem?, PV.one, PV.cells, peqs, peq1, pkeys, pkeyt, List.set, Value.cells, ↓popG_eq, ↓pop.eq_1, ↓List.getElem?_map, ↓List.getElem?_cons_zero, ↓List.getElem?_cons_succ, Value.oneCell', Nat.reduceAdd, Nat.reduceMul, Nat.reduceSub, Nat.reduceLeDiff, Nat.reduceEqDiff, ↓reduceIte, ne_eq, reduceCtorEq, forall_const, exists_and_left, exists_eq_left', eq_self, Nat.reduceLT, Int.reduceLT, Int.reduceLE, Int.reduceToNat, Int.reduceAdd, Int.reduceSub, Int.reduceNeg, hnm, Tryd.tf0, Tryd.tf1, Tryd.tf3, Tryd.tf4, Tryd.tf9, Tryd.tf22, Tryd.tf23, Tryd.tf25, Tryd.tf27, Tryd.tf60, Tryd.tf68, Tryd.call17, Tryd.call36, Tryd.call38]); repeat (refine And.intro (by omega) ?_))
    | ((with_reducible first | apply WL_nil | apply W_label | apply W_skip | apply W_exit | apply W_ret); try simp only [seqK, blockK, scopeK, ↓reduceIte, Nat.reduceEqDiff])
    | (with_reducible apply W_cond_k; intro _ _ ea eb; (simp only [condK, cob, opnd, constPV, Nat.reduceEqDiff, Nat.reduceLT, ↓reduceIte, hcb, reduceCtorEq, forall_const, ne_eq]); subst ea eb; first | (refine ⟨fun hc => ?_, fun hc => ?_⟩ <;> first | (exfalso; omega) | (exfalso; exact hc trivial) | skip) | skip)
    | (with_reducible apply hnx; clear hnx nx)
    | (with_reducible refine And.intro (by omega) ?_)
    | (with_reducible refine And.intro ?_ ?_)
    | (clear hnx nx; with_reducible apply hnx; clear hnx nx)
    | (clear hnx nx; clear hnx nx; with_reducible apply hnx; clear hnx nx))
      all_goals first | exact absurd trivial hc | contradiction | exact fun h => False.elim h | (exfalso; omega) | (exfalso; have hc := of_decide_eq_false hc; omega) | (exfalso; simp only [Bool.not_false, Bool.not_true, decide_eq_true_eq, decide_eq_false_iff_not] at *; omega) | skip
      all_goals
        refine hfin _ _ (Fin_font (H := [(kn2, ⟨68, true, 3, flatK (growK a l m)⟩)]) (by (try simp only [fr_getD_cons, fr_getD_nil, Nat.reduceEqDiff, Nat.reduceLT, ↓reduceIte]); first | done | rfl) (by (try simp only [look, hnm, ↓reduceIte]); first | done | rfl) ⟨by simp, by simp [names]⟩ ⟨kn2, by simp only [fRow, hsp, hdi, hma, hbo], rfl⟩)
end Go.PM

namespace Go.PM
open Go.Proofs
attribute [local irreducible] W PCalls pcall pcallI WL
theorem font_f (G : Globs) (a : List Ltr) (l : List Int) (ha : a.length ≤ 1000000) (hax : ∀ x ∈ a, 1 ≤ x.text.length ∧ x.text.length ≤ 4) (hl : okI l) :
    PCalls Tryd.prog G 11 [ltsP a, wP l] [] (fun res H => res = foP (fontF a l) ∧ H = []) :=
  PCalls.px (font_r G a l ha hax hl) fun res H ⟨n, h1, h2⟩ => ⟨_, _, by rw [h1, h2]; exact Px_font _, rfl, rfl⟩
def zeroK : Kern := ⟨[], [], 0⟩
/-- A font that is spoilt in the way x. -/
def spoF (f : Font) (x : Int) : Font :=
  if x = 0 then { f with space := 0 } else if x = 1 then { f with digit := 1001 } else if x = 2 then { f with mark := -1 } else if x = 3 then { f with bold := 49 } else if x = 4 then { f with bold := 401 }
  else if x = 5 then { f with kerns := List.replicate 65 zeroK } else if x = 6 then { f with kerns := f.kerns ++ [⟨[], [97], 1⟩] } else if x = 7 then { f with kerns := f.kerns ++ [⟨[97], [97, 98, 99, 100, 101], 1⟩] }
  else if x = 8 then { f with kerns := f.kerns ++ [⟨[126], [126], 0⟩] } else if x = 9 then { f with kerns := f.kerns ++ [⟨[126], [126], 1001⟩] } else if x = 10 then { f with kerns := f.kerns ++ [⟨[126], [126], 1⟩, ⟨[126], [126], 2⟩] }
  else { f with mark := 1001 }
theorem flat_ks : ∀ ks : List Kern, flat (ks.map kP) = flatK ks
  | [] => rfl
  | k :: ks => by
    rw [List.map_cons, flatK_cons, ← flat_ks ks]
    rfl
set_option maxRecDepth 100000
set_option maxHeartbeats 8000000
theorem spo_r (G : Globs) (f : Font) (how : Int) (hok : okFont f = true) (hh : i64 how) :
    PCalls Tryd.prog G 12 [foP f, pint .i64 how] [] (fun res H => ∃ n : Int, res = fRow (spoF f (arF how 12)) n ∧ H = [(n, ⟨68, true, 3, flatK (spoF f (arF how 12)).kerns⟩)]) := by
  have c1 := around_c G how 12 (by omega) hh (by omega)
  have b1 := arF_bound how (most := 12) (by omega)
  obtain ⟨_, _, _, _, hkl, _⟩ := (okFont_iff f).1 hok
  have c1 : PCalls Tryd.prog G 24 [pint .i64 how, .val (.int .i64 12)] [] _ := c1
  have hfk := flat_ks f.kerns
  have hfl := flatK_len f.kerns
  generalize arF how 12 = x at *
  obtain ⟨k, rfl⟩ : ∃ k : Nat, x = k := ⟨x.toNat, by omega⟩
  rcases (by omega : k = 0 ∨ k = 1 ∨ k = 2 ∨ k = 3 ∨ k = 4 ∨ k = 5 ∨ k = 6 ∨ k = 7 ∨ k = 8 ∨ k = 9 ∨ k = 10 ∨ k = 11) with rfl | rfl | rfl | rfl | rfl | rfl | rfl | rfl | rfl | rfl | rfl | rfl
  all_goals
    (refine PCalls_f Tryd.func12 rfl Tryd.ntmps12 Tryd.results12 (by simp) fun fin hfin => ?_; have hnm : True := trivial; simp (maxSteps := 2000000) (disch := omega) only [evb, evd, eve, constPV, seqK, blockK, scopeK, pbound, pelems, PV.mem?, PV.one, PV.cells, peqs, peq1, pkeys, pkeyt, List.set, Value.cells, ↓popG_eq, ↓pop.eq_1, ↓List.getElem?_map, ↓List.getElem?_cons_zero, ↓List.getElem?_cons_succ, Value.oneCell', Nat.reduceAdd, Nat.reduceMul, Nat.reduceSub, Nat.reduceLeDiff, Nat.reduceEqDiff, ↓reduceIte, ne_eq, reduceCtorEq, forall_const, exists_and_left, exists_eq_left', eq_self, Nat.reduceLT, Int.reduceLT, Int.reduceLE, Int.reduceToNat, Int.reduceAdd, Int.reduceSub, Int.reduceNeg, hnm, Tryd.tf0, Tryd.tf1, Tryd.tf2, Tryd.tf3, Tryd.tf4, Tryd.tf25, Tryd.tf27, Tryd.tf68, Tryd.call24])
    repeat' (first
    | (with_reducible apply W_seq_k; intro nx hnx)
    | (with_reducible first | apply W_block | apply W_scope)
    | (with_reducible refine W_prune 2071 ?_; simp only [prb, Nat.reducePow, Nat.reduceDiv, Nat.reduceMod, Nat.reduceBEq]; with_reducible apply W_region_l)
    | ((first | (with_reducible apply WL_op; intro nx hnx) | with_reducible refine Ev_out ?_ | (with_reducible refine pfresh_k hnm fun nm hnm => ?_; (try simp only [fmb] at hnm)) | (with_reducible refine pborn_mu hnm fun nm hnm => ?_; (try simp only [fmb] at hnm))); try (simp (maxSteps := 2000000) (disch := omega) only [evb, evd, eve, constPV, seqK, blockK, scopeK, pbound, pelems, PV.mem?, PV.one, PV.cells, peqs, peq1, pkeys, pkeyt, List.set, Value.cells, ↓popG_eq, ↓pop.eq_1, ↓List.getElem?_map, ↓List.getElem?_cons_zero, ↓List.getElem?_cons_succ, Value.oneCell', Nat.reduceAdd, Nat.reduceMul, Nat.reduceSub, Nat.reduceLeDiff, Nat.reduceEqDiff, ↓reduceIte, ne_eq, reduceCtorEq, forall_const, exists_and_left, exists_eq_left', eq_self, Nat.reduceLT, Int.reduceLT, Int.reduceLE, Int.reduceToNat, Int.reduceAdd, Int.reduceSub, Int.reduceNeg, hnm, Tryd.tf0, Tryd.tf1, Tryd.tf2, Tryd.tf3, Tryd.tf4, Tryd.tf25, Tryd.tf27, Tryd.tf68, Tryd.call24, hfk, hfl, List.length_map]); repeat (refine And.intro (by omega) ?_))
    | ((with_reducible first | apply WL_nil | apply W_label | apply W_skip | apply W_exit | apply W_ret); try simp only [seqK, blockK, scopeK, ↓reduceIte, Nat.reduceEqDiff])
    | (with_reducible apply W_cond_k; intro _ _ ea eb; (simp only [condK, cob, opnd, constPV, Nat.reduceEqDiff, Nat.reduceLT, ↓reduceIte, hcb, reduceCtorEq, forall_const, ne_eq]); subst ea eb; first | (refine ⟨fun hc => ?_, fun hc => ?_⟩ <;> first | (exfalso; omega) | (exfalso; exact hc trivial) | skip) | skip)
    | (with_reducible apply hnx; clear hnx nx)
    | (with_reducible refine And.intro (by omega) ?_)
    | (with_reducible refine And.intro ?_ ?_)
    | (with_reducible refine pcall_k (c1) ?_; rintro _ _ ⟨rfl, rfl⟩ -; refine Ev_in ?_)
    | (clear hnx nx; with_reducible apply hnx; clear hnx nx)
    | (clear hnx nx; clear hnx nx; with_reducible apply hnx; clear hnx nx))
    all_goals first | exact absurd trivial hc | contradiction | exact fun h => False.elim h | (exfalso; omega) | (exfalso; have hc := of_decide_eq_false hc; omega) | (exfalso; simp only [Bool.not_false, Bool.not_true, decide_eq_true_eq, decide_eq_false_iff_not] at *; omega) | skip
  all_goals
    refine hfin _ _ (Fin_font (H := [(nm, ⟨68, true, 3, flatK (spoF f _).kerns⟩)]) (by (try simp only [fr_getD_cons, fr_getD_nil, Nat.reduceEqDiff, Nat.reduceLT, ↓reduceIte]); first | done | rfl) (by (try simp only [look, hnm, ↓reduceIte]); first | done | rfl) ⟨?_, by simp [names]⟩ ⟨nm, ?_, rfl⟩)
    · simp [spoF, flatK, zeroK, List.replicate, mk]
    · simp [spoF, fRow]
theorem spo_f (G : Globs) (f : Font) (how : Int) (hok : okFont f = true) (hh : i64 how) :
    PCalls Tryd.prog G 12 [foP f, pint .i64 how] [] (fun res H => res = foP (spoF f (arF how 12)) ∧ H = []) :=
  PCalls.px (spo_r G f how hok hh) fun res H ⟨n, h1, h2⟩ => ⟨_, _, by rw [h1, h2]; exact Px_font _, rfl, rfl⟩
theorem spo_cases {P : Font → Prop} (f : Font) (x : Int) (h0 : 0 ≤ x ∧ x < 12) (c0 : P { f with space := 0 }) (c1 : P { f with digit := 1001 }) (c2 : P { f with mark := -1 }) (c3 : P { f with bold := 49 }) (c4 : P { f with bold := 401 })
    (c5 : P { f with kerns := List.replicate 65 zeroK }) (c6 : ∀ k : Kern, okKern k = false → k.left.length ≤ 5 → k.right.length ≤ 5 → 0 ≤ k.by_ → k.by_ ≤ 1001 → P { f with kerns := f.kerns ++ [k] })
    (c7 : P { f with kerns := f.kerns ++ [⟨[126], [126], 1⟩, ⟨[126], [126], 2⟩] }) (c8 : P { f with mark := 1001 }) : P (spoF f x) := by
  unfold spoF
  by_cases h0 : x = 0
  · rw [if_pos h0]
    exact c0
  rw [if_neg h0]
  by_cases h1 : x = 1
  · rw [if_pos h1]
    exact c1
  rw [if_neg h1]
  by_cases h2 : x = 2
  · rw [if_pos h2]
    exact c2
  rw [if_neg h2]
  by_cases h3 : x = 3
  · rw [if_pos h3]
    exact c3
  rw [if_neg h3]
  by_cases h4 : x = 4
  · rw [if_pos h4]
    exact c4
  rw [if_neg h4]
  by_cases h5 : x = 5
  · rw [if_pos h5]
    exact c5
  rw [if_neg h5]
  by_cases h6 : x = 6
  · rw [if_pos h6]
    refine c6 _ ?_ ?_ ?_ ?_ ?_ <;> decide
  rw [if_neg h6]
  by_cases h7 : x = 7
  · rw [if_pos h7]
    refine c6 _ ?_ ?_ ?_ ?_ ?_ <;> decide
  rw [if_neg h7]
  by_cases h8 : x = 8
  · rw [if_pos h8]
    refine c6 _ ?_ ?_ ?_ ?_ ?_ <;> decide
  rw [if_neg h8]
  by_cases h9 : x = 9
  · rw [if_pos h9]
    refine c6 _ ?_ ?_ ?_ ?_ ?_ <;> decide
  rw [if_neg h9]
  by_cases h10 : x = 10
  · rw [if_pos h10]
    exact c7
  rw [if_neg h10]
  exact c8
theorem spo_HF {f : Font} (hok : okFont f = true) (x : Int) (h0 : 0 ≤ x ∧ x < 12) : HF (spoF f x) := by
  obtain ⟨q1, q2, q3⟩ := ok_HF hok
  have hkl := ((okFont_iff f).1 hok).2.2.2.2.1
  refine spo_cases (P := HF) f x h0 ?_ ?_ ?_ ?_ ?_ ?_ ?_ ?_ ?_
  case refine_6 =>
    refine ⟨q1, by simp, fun k hk => ?_⟩
    rw [List.eq_of_mem_replicate hk]
    decide
  case refine_7 =>
    intro k _ h1 h2 h3 h4
    refine ⟨q1, by simp only [List.length_append, List.length_singleton]; omega, fun y hy => ?_⟩
    rcases List.mem_append.1 hy with h | h
    · exact q3 y h
    · simp only [List.mem_singleton] at h
      subst h
      omega
  case refine_8 =>
    refine ⟨q1, by simp only [List.length_append, List.length_cons, List.length_nil]; omega, fun y hy => ?_⟩
    rcases List.mem_append.1 hy with h | h
    · exact q3 y h
    · simp only [List.mem_cons, List.not_mem_nil, or_false] at h
      rcases h with rfl | rfl <;> decide
  all_goals exact ⟨by simp only; omega, q2, q3⟩
end Go.PM

namespace Go.PM
open Go.Proofs
attribute [local irreducible] W PCalls pcall pcallI WL
def pieceS (a : List Ltr) (x : Nat) : List UInt8 := if x % 12 = 0 then [UInt8.ofNat (33 + x / 12 % 200)] else if x % 40 = 1 then [UInt8.ofNat (x / 40 % 40)] else chrF a (x / 12)
def strN (a : List Ltr) (l : List Int) (n : Nat) : List UInt8 := (List.range n).flatMap fun i => pieceS a (atF l (i + 1) 4000).toNat
def strF (a : List Ltr) (l : List Int) : List UInt8 := strN a l (atF l 0 14).toNat
theorem pieceS_len {a : List Ltr} (h : ∀ x ∈ a, 1 ≤ x.text.length ∧ x.text.length ≤ 4) (x : Nat) : (pieceS a x).length ≤ 4 := by
  unfold pieceS
  split
  · simp
  · split
    · simp
    · exact (chrF_len h _).2
theorem strN_step (a : List Ltr) (l : List Int) (n : Nat) : strN a l (n + 1) = strN a l n ++ pieceS a (atF l (n + 1) 4000).toNat := by
  unfold strN
  rw [List.range_succ, List.flatMap_append]
  simp
theorem strN_len {a : List Ltr} (h : ∀ x ∈ a, 1 ≤ x.text.length ∧ x.text.length ≤ 4) (l : List Int) : ∀ n, (strN a l n).length ≤ 4 * n
  | 0 => by simp [strN]
  | n + 1 => by
    have := strN_len h l n
    have := pieceS_len h (atF l (n + 1) 4000).toNat
    rw [strN_step, List.length_append]
    omega
theorem strF_len {a : List Ltr} (h : ∀ x ∈ a, 1 ≤ x.text.length ∧ x.text.length ≤ 4) (l : List Int) : (strF a l).length ≤ 52 := by
  have := strN_len h l (atF l 0 14).toNat
  have := atF_bound l 0 (most := 14) (by omega)
  unfold strF
  omega
set_option maxRecDepth 100000
set_option maxHeartbeats 8000000
theorem rstring_c (G : Globs) (a : List Ltr) (l : List Int) (ha : a.length ≤ 1000000) (hax : ∀ x ∈ a, 1 ≤ x.text.length ∧ x.text.length ≤ 4) (hl : okI l) :
    PCalls Tryd.prog G 14 [ltsP a, wP l, .val (.int .i64 0)] [] (fun res H => res = pstr (strF a l) ∧ H = []) := by
  have d0 := at_c G l hl 0 14 (by omega) (by omega)
  have d0 : PCalls Tryd.prog G 36 [wP l, .val (.int .i64 0), .val (.int .i64 14)] [] _ := d0
  have b0 := atF_bound l 0 (most := 14) (by omega)
  unfold strF
  obtain ⟨m, hm⟩ : ∃ m : Nat, atF l 0 14 = m := ⟨(atF l 0 14).toNat, by omega⟩
  rw [hm] at d0 b0 ⊢
  rw [show ((m : Int)).toNat = m from rfl]
  (refine PCalls_f Tryd.func14 rfl Tryd.ntmps14 Tryd.results14 (by simp) fun fin hfin => ?_; have hnm : True := trivial; simp (maxSteps := 2000000) (disch := omega) only [evb, evd, eve, constPV, seqK, blockK, scopeK, pbound, pelems, PV.mem?, PV.one, PV.cells, peqs, peq1, pkeys, pkeyt, List.set, Value.cells, ↓popG_eq, ↓pop.eq_1, ↓List.getElem?_map, ↓List.getElem?_cons_zero, ↓List.getElem?_cons_succ, Value.oneCell', Nat.reduceAdd, Nat.reduceMul, Nat.reduceSub, Nat.reduceLeDiff, Nat.reduceEqDiff, ↓reduceIte, ne_eq, reduceCtorEq, forall_const, exists_and_left, exists_eq_left', eq_self, Nat.reduceLT, Int.reduceLT, Int.reduceLE, Int.reduceToNat, Int.reduceAdd, Int.reduceSub, Int.reduceNeg, hnm, Tryd.tf1, Tryd.tf3, Tryd.tf4, Tryd.tf5, Tryd.tf9, Tryd.tf22, Tryd.tf23, Tryd.tf60, Tryd.tf69, Tryd.call36, Tryd.call38])
  repeat' (first
    | (with_reducible apply W_seq_k; intro nx hnx)
    | (with_reducible first | apply W_block | apply W_scope)
    | (with_reducible refine W_prune 1991 ?_; simp only [prb, Nat.reducePow, Nat.reduceDiv, Nat.reduceMod, Nat.reduceBEq]; with_reducible apply W_region_l)
    | ((first | (with_reducible apply WL_op; intro nx hnx) | with_reducible refine Ev_out ?_ | (with_reducible refine pfresh_k hnm fun nm hnm => ?_; (try simp only [fmb] at hnm)) | (with_reducible refine pborn_mu hnm fun nm hnm => ?_; (try simp only [fmb] at hnm))); try (simp (maxSteps := 2000000) (disch := omega) only [evb, evd, eve, constPV, seqK, blockK, scopeK, pbound, pelems, PV.mem?, PV.one, PV.cells, peqs, peq1, pkeys, pkeyt, List.set, Value.cells, ↓popG_eq, ↓pop.eq_1, ↓List.getElem?_map, ↓List.getElem?_cons_zero, ↓List.getElem?_cons_succ, Value.oneCell', Nat.reduceAdd, Nat.reduceMul, Nat.reduceSub, Nat.reduceLeDiff, Nat.reduceEqDiff, ↓reduceIte, ne_eq, reduceCtorEq, forall_const, exists_and_left, exists_eq_left', eq_self, Nat.reduceLT, Int.reduceLT, Int.reduceLE, Int.reduceToNat, Int.reduceAdd, Int.reduceSub, Int.reduceNeg, hnm, Tryd.tf1, Tryd.tf3, Tryd.tf4, Tryd.tf5, Tryd.tf9, Tryd.tf22, Tryd.tf23, Tryd.tf60, Tryd.tf69, Tryd.call36, Tryd.call38]); repeat (refine And.intro (by omega) ?_))
    | ((with_reducible first | apply WL_nil | apply W_label | apply W_skip | apply W_exit | apply W_ret); try simp only [seqK, blockK, scopeK, ↓reduceIte, Nat.reduceEqDiff])
    | (with_reducible apply W_cond_k; intro _ _ ea eb; (simp only [condK, cob, opnd, constPV, Nat.reduceEqDiff, Nat.reduceLT, ↓reduceIte, hcb, reduceCtorEq, forall_const, ne_eq]); subst ea eb; first | (refine ⟨fun hc => ?_, fun hc => ?_⟩ <;> first | (exfalso; omega) | (exfalso; exact hc trivial) | skip) | skip)
    | (with_reducible apply hnx; clear hnx nx)
    | (with_reducible refine And.intro (by omega) ?_)
    | (with_reducible refine And.intro ?_ ?_)
    | (with_reducible refine pcall_k (d0) ?_; rintro _ _ ⟨rfl, rfl⟩ -; refine Ev_in ?_)
    | (clear hnx nx; with_reducible apply hnx; clear hnx nx)
    | (clear hnx nx; clear hnx nx; with_reducible apply hnx; clear hnx nx))
  all_goals first | exact absurd trivial hc | contradiction | exact fun h => False.elim h | (exfalso; omega) | (exfalso; have hc := of_decide_eq_false hc; omega) | (exfalso; simp only [Bool.not_false, Bool.not_true, decide_eq_true_eq, decide_eq_false_iff_not] at *; omega) | skip
  refine W_loop_k (fun z τ => ∃ i : Nat, i ≤ m ∧ z = m - i ∧ τ = ⟨fr 56 [(9, pint .i64 ((i : Int) + 1)), (8, pn m), (7, pstr (strN a l i)), (2, pint .i64 0), (1, wP l), (0, ltsP a)], []⟩) m
    ⟨fr 56 [(9, pint .i64 1), (8, pn m), (7, .val (.string ⟨#[]⟩)), (2, pint .i64 0), (1, wP l), (0, ltsP a)], []⟩ (by
    exact Wk_fr (by simp only [wkb, Nat.reduceEqDiff, Nat.reduceLT, ↓reduceIte, pn]) (Sub_nil _)) ⟨0, by omega, by omega, rfl⟩ ?_
  rintro z τ ⟨i, hi, rfl, rfl⟩ lp hlp
  have hlen := strN_len hax l i
  by_cases him : i < m
  · have d1 := at_c G l hl (i + 1) 4000 (by omega) (by omega)
    have b1 := atF_bound l (i + 1) (most := 4000) (by omega)
    have hst := strN_step a l i
    obtain ⟨x, hx⟩ : ∃ x : Nat, atF l (i + 1) 4000 = x := ⟨(atF l (i + 1) 4000).toNat, by omega⟩
    rw [hx] at d1 b1 hst
    rw [show ((x : Int)).toNat = x from rfl] at hst
    simp only [pn, Int.natCast_add, Int.cast_ofNat_Int] at d1
    have hzi : (0 : Int) + (i + 1) = i + 1 := by omega
    have t1 : ((x : Int)).tmod 12 = ((x % 12 : Nat) : Int) := by rw [Int.tmod_eq_emod_of_nonneg (by omega)]; omega
    have t2 : ((x : Int)).tmod 40 = ((x % 40 : Nat) : Int) := by rw [Int.tmod_eq_emod_of_nonneg (by omega)]; omega
    have t3 : ((x : Int)).tdiv 12 = ((x / 12 : Nat) : Int) := by rw [Int.tdiv_eq_ediv_of_nonneg (by omega)]; omega
    have t4 : ((x : Int)).tdiv 40 = ((x / 40 : Nat) : Int) := by rw [Int.tdiv_eq_ediv_of_nonneg (by omega)]; omega
    have t5 : (((x / 12 : Nat) : Int)).tmod 200 = ((x / 12 % 200 : Nat) : Int) := by rw [Int.tmod_eq_emod_of_nonneg (by omega)]; omega
    have t6 : (((x / 40 : Nat) : Int)).tmod 40 = ((x / 40 % 40 : Nat) : Int) := by rw [Int.tmod_eq_emod_of_nonneg (by omega)]; omega
    have w1 : IntKind.u8.wrap (33 + ((x / 12 % 200 : Nat) : Int)) = (UInt8.ofNat (33 + x / 12 % 200)).toNat := by
      rw [wr8u _ (by omega) (by omega), UInt8.toNat_ofNat']
      omega
    have w2 : IntKind.u8.wrap ((x / 40 % 40 : Nat) : Int) = (UInt8.ofNat (x / 40 % 40)).toNat := by
      rw [wr8u _ (by omega) (by omega), UInt8.toNat_ofNat']
      omega
    have e1 := character_c G a (x / 12) ha (by omega)
    have l1 := chrF_len hax (x / 12)
    unfold pieceS at hst
    generalize UInt8.ofNat (33 + x / 12 % 200) = c1 at *
    generalize UInt8.ofNat (x / 40 % 40) = c2 at *
    generalize chrF a (x / 12) = ct at *
    have hu1 : unb (pint .u8 c1.toNat) = c1 := List.singleton_inj.1 (unb_pb [c1])
    have hu2 : isByte (pint .u8 c1.toNat) = true := isByte_pbyte c1
    have hu3 : unb (pint .u8 c2.toNat) = c2 := List.singleton_inj.1 (unb_pb [c2])
    have hu4 : isByte (pint .u8 c2.toNat) = true := isByte_pbyte c2
    generalize strN a l i = s at *
    repeat' (first
    | (with_reducible apply W_seq_k; intro nx hnx)
    | (with_reducible first | apply W_block | apply W_scope)
    | (with_reducible refine W_prune 1991 ?_; simp only [prb, Nat.reducePow, Nat.reduceDiv, Nat.reduceMod, Nat.reduceBEq]; with_reducible apply W_region_l)
    | ((first | (with_reducible apply WL_op; intro nx hnx) | with_reducible refine Ev_out ?_ | (with_reducible refine pfresh_k hnm fun nm hnm => ?_; (try simp only [fmb] at hnm)) | (with_reducible refine pborn_mu hnm fun nm hnm => ?_; (try simp only [fmb] at hnm))); try (simp (maxSteps := 2000000) (disch := omega) only [evb, evd, eve, constPV, seqK, blockK, scopeK, pbound, pelems, PV.mem?, PV.one, PV.cells, peqs, peq1, pkeys, pkeyt, List.set, Value.cells, ↓popG_eq, ↓pop.eq_1, ↓List.getElem?_map, ↓List.getElem?_cons_zero, ↓List.getElem?_cons_succ, Value.oneCell', Nat.reduceAdd, Nat.reduceMul, Nat.reduceSub, Nat.reduceLeDiff, Nat.reduceEqDiff, ↓reduceIte, ne_eq, reduceCtorEq, forall_const, exists_and_left, exists_eq_left', eq_self, Nat.reduceLT, Int.reduceLT, Int.reduceLE, Int.reduceToNat, Int.reduceAdd, Int.reduceSub, Int.reduceNeg, hnm, Tryd.tf1, Tryd.tf3, Tryd.tf4, Tryd.tf5, Tryd.tf9, Tryd.tf22, Tryd.tf23, Tryd.tf60, Tryd.tf69, Tryd.call36, Tryd.call38, hzi, t1, t2, t3, t4, t5, t6, w1, w2, hu1, hu2, hu3, hu4]); repeat (refine And.intro (by omega) ?_))
    | ((with_reducible first | apply WL_nil | apply W_label | apply W_skip | apply W_exit | apply W_ret); try simp only [seqK, blockK, scopeK, ↓reduceIte, Nat.reduceEqDiff])
    | (with_reducible apply W_cond_k; intro _ _ ea eb; (simp only [condK, cob, opnd, constPV, Nat.reduceEqDiff, Nat.reduceLT, ↓reduceIte, hcb, reduceCtorEq, forall_const, ne_eq]); subst ea eb; first | (refine ⟨fun hc => ?_, fun hc => ?_⟩ <;> first | (exfalso; omega) | (exfalso; exact hc trivial) | skip) | skip)
    | (with_reducible apply hnx; clear hnx nx)
    | (with_reducible refine And.intro (by omega) ?_)
    | (with_reducible refine And.intro ?_ ?_)
    | (with_reducible refine pcall_k (d1) ?_; rintro _ _ ⟨rfl, rfl⟩ -; refine Ev_in ?_)
    | (with_reducible refine pcall_k (e1) ?_; rintro _ _ ⟨rfl, rfl⟩ -; refine Ev_in ?_)
    | (clear hnx nx; with_reducible apply hnx; clear hnx nx)
    | (clear hnx nx; clear hnx nx; with_reducible apply hnx; clear hnx nx))
    all_goals first | exact absurd trivial hc | contradiction | exact fun h => False.elim h | (exfalso; omega) | (exfalso; have hc := of_decide_eq_false hc; omega) | (exfalso; simp only [Bool.not_false, Bool.not_true, decide_eq_true_eq, decide_eq_false_iff_not] at *; omega) | skip
    all_goals first
      | exact (by kernel_rfl : Tryd.prog.underlying 5 = some (.int .u8))
      | skip
    all_goals
      refine hlp _ (m - (i + 1)) ⟨fr 56 [(9, pint .i64 (((i + 1 : Nat) : Int) + 1)), (8, pn m), (7, pstr (strN a l (i + 1))), (2, pint .i64 0), (1, wP l), (0, ltsP a)], []⟩ (by omega) ?_ ⟨i + 1, by omega, rfl, rfl⟩
      rw [hst]
      first
        | (rw [if_pos (by omega)]
           exact Wk_fr (by simp only [wkb, Nat.reduceEqDiff, Nat.reduceLT, ↓reduceIte, pn, Int.natCast_add, Int.cast_ofNat_Int]) (Sub_nil _))
        | (rw [if_neg (by omega), if_pos (by omega)]
           exact Wk_fr (by simp only [wkb, Nat.reduceEqDiff, Nat.reduceLT, ↓reduceIte, pn, Int.natCast_add, Int.cast_ofNat_Int]) (Sub_nil _))
        | (rw [if_neg (by omega), if_neg (by omega)]
           exact Wk_fr (by simp only [wkb, Nat.reduceEqDiff, Nat.reduceLT, ↓reduceIte, pn, Int.natCast_add, Int.cast_ofNat_Int]) (Sub_nil _))
  · have hi2 : i = m := by omega
    subst hi2
    repeat' (first
    | (with_reducible apply W_seq_k; intro nx hnx)
    | (with_reducible first | apply W_block | apply W_scope)
    | (with_reducible refine W_prune 1991 ?_; simp only [prb, Nat.reducePow, Nat.reduceDiv, Nat.reduceMod, Nat.reduceBEq]; with_reducible apply W_region_l)
    | ((first | (with_reducible apply WL_op; intro nx hnx) | with_reducible refine Ev_out ?_ | (with_reducible refine pfresh_k hnm fun nm hnm => ?_; (try simp only [fmb] at hnm)) | (with_reducible refine pborn_mu hnm fun nm hnm => ?_; (try simp only [fmb] at hnm))); try (simp (maxSteps := 2000000) (disch := omega) only [evb, evd, eve, constPV, seqK, blockK, scopeK, pbound, pelems, PV.mem?, PV.one, PV.cells, peqs, peq1, pkeys, pkeyt, List.set, Value.cells, ↓popG_eq, ↓pop.eq_1, ↓List.getElem?_map, ↓List.getElem?_cons_zero, ↓List.getElem?_cons_succ, Value.oneCell', Nat.reduceAdd, Nat.reduceMul, Nat.reduceSub, Nat.reduceLeDiff, Nat.reduceEqDiff, ↓reduceIte, ne_eq, reduceCtorEq, forall_const, exists_and_left, exists_eq_left', eq_self, Nat.reduceLT, Int.reduceLT, Int.reduceLE, Int.reduceToNat, Int.reduceAdd, Int.reduceSub, Int.reduceNeg, hnm, Tryd.tf1, Tryd.tf3, Tryd.tf4, Tryd.tf5, Tryd.tf9, Tryd.tf22, Tryd.tf23, Tryd.tf60, Tryd.tf69, Tryd.call36, Tryd.call38]); repeat (refine And.intro (by omega) ?_))
    | ((with_reducible first | apply WL_nil | apply W_label | apply W_skip | apply W_exit | apply W_ret); try simp only [seqK, blockK, scopeK, ↓reduceIte, Nat.reduceEqDiff])
    | (with_reducible apply W_cond_k; intro _ _ ea eb; (simp only [condK, cob, opnd, constPV, Nat.reduceEqDiff, Nat.reduceLT, ↓reduceIte, hcb, reduceCtorEq, forall_const, ne_eq]); subst ea eb; first | (refine ⟨fun hc => ?_, fun hc => ?_⟩ <;> first | (exfalso; omega) | (exfalso; exact hc trivial) | skip) | skip)
    | (with_reducible apply hnx; clear hnx nx)
    | (with_reducible refine And.intro (by omega) ?_)
    | (with_reducible refine And.intro ?_ ?_)
    | (clear hnx nx; with_reducible apply hnx; clear hnx nx)
    | (clear hnx nx; clear hnx nx; with_reducible apply hnx; clear hnx nx))
    all_goals first | exact absurd trivial hc | contradiction | exact fun h => False.elim h | (exfalso; omega) | (exfalso; have hc := of_decide_eq_false hc; omega) | (exfalso; simp only [Bool.not_false, Bool.not_true, decide_eq_true_eq, decide_eq_false_iff_not] at *; omega) | skip
    all_goals
      refine hfin _ _ (Fin_ret1 rfl (Sub_nil _) ?_); simp only [List.getD_cons_zero, List.getD_cons_succ, fr_getD_cons, fr_getD_nil, Nat.reduceEqDiff, Nat.reduceLT, ↓reduceIte]
      exact ⟨by first | rfl | trivial, by trivial⟩
end Go.PM

namespace Go.PM
open Go.Proofs
attribute [local irreducible] W PCalls pcall pcallI WL
def exA : List Ltr := [⟨[65], 0, 0, 0, 7⟩, ⟨[86], 1, 0, 0, 7⟩, ⟨[99, 104], 2, 0, 0, 11⟩]
def exF : Font := ⟨3, 5, 4, 110, [⟨[65], [86], 2⟩, ⟨[49], [49], 1⟩]⟩
theorem exA_HA : HA exA := ⟨by decide, by decide⟩
theorem exF_ok : okFont exF = true := by decide +kernel
theorem exF_HF : HF exF := by
  refine ⟨by decide, by decide, ?_⟩
  decide
theorem ex_widths : widthsF exA exF [65, 86, 65, 32, 49] false = ([7, 12, 19, 22, 27], 0) := by decide +kernel
theorem ex_f1 : fitF exA exF [65, 86, 99, 104] false 12 = [65, 86] := by decide +kernel
theorem ex_f2 : fitF exA exF [65, 86, 99, 104] false 22 = [65, 86] := by decide +kernel
theorem ex_f3 : fitF exA exF [65, 86, 99, 104] false 23 = [65, 86, 99, 104] := by decide +kernel
theorem ex_f4 : fitF exA exF [65, 86, 99, 104] false (-1) = [] := by decide +kernel
theorem ex_w1 : widthF exA exF [65, 86] false = (12, 0) := by decide +kernel
theorem ex_w2 : widthF exA exF [65, 32, 86] false = (17, 0) := by decide +kernel
theorem ex_w3 : widthF exA exF [86, 99, 104] false = (18, 0) := by decide +kernel
theorem ex_w4 : widthF exA exF [65, 86] true = (14, 0) := by decide +kernel
theorem ex_i1 : Lib.itoa 11 = [49, 49] := by
  rw [Lib.itoa, if_neg (by decide), dec_lib, show (11 : Int).toNat = 11 from rfl, decF_ge (by decide), decF_lt (by decide)]
  rfl
theorem ex_i2 : Lib.itoa (-7) = [45, 55] := by
  rw [Lib.itoa, if_pos (by decide), dec_lib, show (-7 : Int).natAbs = 7 from rfl, decF_lt (by decide)]
  rfl
theorem ex_i3 : Lib.itoa 0 = [48] := by
  rw [Lib.itoa, if_neg (by decide), dec_lib, show (0 : Int).toNat = 0 from rfl, decF_lt (by decide)]
  rfl
theorem ex_n1 : numberF exF 11 false = 9 := by
  unfold numberF
  rw [ex_i1]
  decide +kernel
theorem ex_n2 : numberF exF (-7) false = 9 := by
  unfold numberF
  rw [ex_i2]
  decide +kernel
theorem ex_n3 : numberF exF 0 false = 5 := by
  unfold numberF
  rw [ex_i3]
  decide +kernel
set_option maxRecDepth 100000
set_option maxHeartbeats 8000000
theorem pres27 {σ : PState} {x : Tmp} {n : Int} {p q r t u : PV} (hx : σ.frame.getD x .junk = .ptr n 0) (hl : look σ.heap n = some ⟨27, false, 0, [p, q, r, t, u]⟩) : PRes Tryd.prog σ (.cell x 27) (.agg [p, q, r, t, u]) := by
  simp only [PRes, Tryd.tf27, hx, hl, pload]
  simp
theorem example_c (G : Globs) : PCalls Tryd.prog G 46 [] [] (fun res H => res = .tuple [ltsP exA, foP exF] ∧ H = []) := by
  (refine PCalls_f Tryd.func46 rfl Tryd.ntmps46 Tryd.results46 (by simp) fun fin hfin => ?_; have hnm : True := trivial; simp (maxSteps := 2000000) (disch := omega) only [evb, evd, eve, constPV, seqK, blockK, scopeK, pbound, pelems, PV.mem?, PV.one, PV.cells, peqs, peq1, pkeys, pkeyt, List.set, Value.cells, ↓popG_eq, ↓pop.eq_1, ↓List.getElem?_map, ↓List.getElem?_cons_zero, ↓List.getElem?_cons_succ, Value.oneCell', Nat.reduceAdd, Nat.reduceMul, Nat.reduceSub, Nat.reduceLeDiff, Nat.reduceEqDiff, ↓reduceIte, ne_eq, reduceCtorEq, forall_const, exists_and_left, exists_eq_left', eq_self, Nat.reduceLT, Int.reduceLT, Int.reduceLE, Int.reduceToNat, Int.reduceAdd, Int.reduceSub, Int.reduceNeg, hnm, Tryd.tf0, Tryd.tf2, Tryd.tf3, Tryd.tf23, Tryd.tf25, Tryd.tf27, Tryd.tf60, Tryd.tf68])
  repeat' (first
    | (with_reducible apply W_seq_k; intro nx hnx)
    | (with_reducible first | apply W_block | apply W_scope)
    | (with_reducible refine W_prune 7 ?_; simp only [prb, Nat.reducePow, Nat.reduceDiv, Nat.reduceMod, Nat.reduceBEq]; with_reducible apply W_region_l)
    | (with_reducible refine WL_born (by simp) rfl (by simp) ?_; simp only [elemsOf, nl, List.map_cons, List.map_nil, Nat.reduceEqDiff, ↓reduceIte, List.take_succ_cons, List.take_zero, List.range_succ, List.range_zero, List.nil_append, List.cons_append, List.map_append, List.drop_succ_cons, List.drop_zero, Nat.reduceMul, Nat.zero_mul, Nat.one_mul, Nat.reduceAdd])
    | (with_reducible refine WL_bornH (by simp) (by simp) ?_ ?_ ?_; (· simp [frz, frz1, hnm]); (· simp [frz1, hnm, PV.one, Value.oneCell']); simp only [elemsOf, nl, List.map_cons, List.map_nil, Nat.reduceEqDiff, ↓reduceIte, List.take_succ_cons, List.take_zero, List.range_succ, List.range_zero, List.nil_append, List.cons_append, List.map_append, List.drop_succ_cons, List.drop_zero, Nat.reduceMul, Nat.zero_mul, Nat.one_mul, Nat.reduceAdd])
    | ((first | (with_reducible apply WL_op; intro nx hnx) | with_reducible refine Ev_out ?_ | (with_reducible refine pfresh_k hnm fun nm hnm => ?_; (try simp only [fmb] at hnm)) | (with_reducible refine pborn_im ?_; simp only [elemsOf, nl, List.map_cons, List.map_nil, Nat.reduceEqDiff, ↓reduceIte, List.take_succ_cons, List.take_zero, List.range_succ, List.range_zero, List.nil_append, List.cons_append, List.map_append, List.drop_succ_cons, List.drop_zero, Nat.reduceMul, Nat.zero_mul, Nat.one_mul, Nat.reduceAdd])); try (simp (maxSteps := 2000000) (disch := omega) only [evb, evd, eve, constPV, seqK, blockK, scopeK, pbound, pelems, PV.mem?, PV.one, PV.cells, peqs, peq1, pkeys, pkeyt, List.set, Value.cells, ↓popG_eq, ↓pop.eq_1, ↓List.getElem?_map, ↓List.getElem?_cons_zero, ↓List.getElem?_cons_succ, Value.oneCell', Nat.reduceAdd, Nat.reduceMul, Nat.reduceSub, Nat.reduceLeDiff, Nat.reduceEqDiff, ↓reduceIte, ne_eq, reduceCtorEq, forall_const, exists_and_left, exists_eq_left', eq_self, Nat.reduceLT, Int.reduceLT, Int.reduceLE, Int.reduceToNat, Int.reduceAdd, Int.reduceSub, Int.reduceNeg, hnm, Tryd.tf0, Tryd.tf2, Tryd.tf3, Tryd.tf23, Tryd.tf25, Tryd.tf27, Tryd.tf60, Tryd.tf68]); repeat (refine And.intro (by omega) ?_))
    | ((with_reducible first | apply WL_nil | apply W_label | apply W_skip | apply W_exit | apply W_ret); try simp only [seqK, blockK, scopeK, ↓reduceIte, Nat.reduceEqDiff])
    | (with_reducible apply W_cond_k; intro _ _ ea eb; (simp only [condK, cob, opnd, constPV, Nat.reduceEqDiff, Nat.reduceLT, ↓reduceIte, hcb, reduceCtorEq, forall_const, ne_eq]); subst ea eb; first | (refine ⟨fun hc => ?_, fun hc => ?_⟩ <;> first | (exfalso; omega) | (exfalso; exact hc trivial) | skip) | skip)
    | (with_reducible apply hnx; clear hnx nx)
    | (with_reducible refine And.intro (by omega) ?_)
    | (with_reducible refine And.intro ?_ ?_)
    | (clear hnx nx; with_reducible apply hnx; clear hnx nx)
    | (clear hnx nx; clear hnx nx; with_reducible apply hnx; clear hnx nx))
  all_goals first | exact absurd trivial hc | contradiction | exact fun h => False.elim h | (exfalso; omega) | (exfalso; have hc := of_decide_eq_false hc; omega) | (exfalso; simp only [Bool.not_false, Bool.not_true, decide_eq_true_eq, decide_eq_false_iff_not] at *; omega) | skip
  all_goals
    refine hfin _ _ (Fin_ret (H := []) (res := .tuple [ltsP exA, foP exF]) ⟨[ltsP exA, foP exF], ⟨?_, ?_, trivial⟩, rfl⟩ (Sub_nil _) ⟨rfl, rfl⟩)
    · simp only [PRes, fr_getD_cons, fr_getD_nil, Nat.reduceEqDiff, Nat.reduceLT, ↓reduceIte]
      rfl
    · exact pres27 (n := _) (by (try simp only [fr_getD_cons, fr_getD_nil, Nat.reduceEqDiff, Nat.reduceLT, ↓reduceIte]); first | done | rfl) (by (try simp only [look, hnm, ↓reduceIte]); first | done | rfl)
theorem width_ex (G : Globs) (s : List UInt8) (bold : Bool) (hs : s.length ≤ 100) : PCalls Tryd.prog G 47 [pstr s, pbool bold] [] (fun res H => res = pint .i64 (widthF exA exF s bold).1 ∧ H = []) := by
  have c1 := example_c G
  have c2 := width_c G exA exF s bold exA_HA exF_HF (by omega)
  generalize widthF exA exF s bold = w at *
  generalize exA = a at *
  generalize exF = f at *
  (refine PCalls_f Tryd.func47 rfl Tryd.ntmps47 Tryd.results47 (by simp) fun fin hfin => ?_; have hnm : True := trivial; simp (maxSteps := 2000000) (disch := omega) only [evb, evd, eve, constPV, seqK, blockK, scopeK, pbound, pelems, PV.mem?, PV.one, PV.cells, peqs, peq1, pkeys, pkeyt, List.set, Value.cells, ↓popG_eq, ↓pop.eq_1, ↓List.getElem?_map, ↓List.getElem?_cons_zero, ↓List.getElem?_cons_succ, Value.oneCell', Nat.reduceAdd, Nat.reduceMul, Nat.reduceSub, Nat.reduceLeDiff, Nat.reduceEqDiff, ↓reduceIte, ne_eq, reduceCtorEq, forall_const, exists_and_left, exists_eq_left', eq_self, Nat.reduceLT, Int.reduceLT, Int.reduceLE, Int.reduceToNat, Int.reduceAdd, Int.reduceSub, Int.reduceNeg, hnm, Tryd.tf0, Tryd.tf1, Tryd.tf3, Tryd.tf4, Tryd.tf9, Tryd.tf23, Tryd.tf27, Tryd.tf37, Tryd.tf38, Tryd.tf60, Tryd.tf77, Tryd.call18, Tryd.call46])
  repeat' (first
    | (with_reducible apply W_seq_k; intro nx hnx)
    | (with_reducible first | apply W_block | apply W_scope)
    | (with_reducible refine W_prune 243 ?_; simp only [prb, Nat.reducePow, Nat.reduceDiv, Nat.reduceMod, Nat.reduceBEq]; with_reducible apply W_region_l)
    | ((first | (with_reducible apply WL_op; intro nx hnx) | with_reducible refine Ev_out ?_ | (with_reducible refine pfresh_k hnm fun nm hnm => ?_; (try simp only [fmb] at hnm)) | (with_reducible refine pborn_mu hnm fun nm hnm => ?_; (try simp only [fmb] at hnm))); try (simp (maxSteps := 2000000) (disch := omega) only [evb, evd, eve, constPV, seqK, blockK, scopeK, pbound, pelems, PV.mem?, PV.one, PV.cells, peqs, peq1, pkeys, pkeyt, List.set, Value.cells, ↓popG_eq, ↓pop.eq_1, ↓List.getElem?_map, ↓List.getElem?_cons_zero, ↓List.getElem?_cons_succ, Value.oneCell', Nat.reduceAdd, Nat.reduceMul, Nat.reduceSub, Nat.reduceLeDiff, Nat.reduceEqDiff, ↓reduceIte, ne_eq, reduceCtorEq, forall_const, exists_and_left, exists_eq_left', eq_self, Nat.reduceLT, Int.reduceLT, Int.reduceLE, Int.reduceToNat, Int.reduceAdd, Int.reduceSub, Int.reduceNeg, hnm, Tryd.tf0, Tryd.tf1, Tryd.tf3, Tryd.tf4, Tryd.tf9, Tryd.tf23, Tryd.tf27, Tryd.tf37, Tryd.tf38, Tryd.tf60, Tryd.tf77, Tryd.call18, Tryd.call46]); repeat (refine And.intro (by omega) ?_))
    | ((with_reducible first | apply WL_nil | apply W_label | apply W_skip | apply W_exit | apply W_ret); try simp only [seqK, blockK, scopeK, ↓reduceIte, Nat.reduceEqDiff])
    | (with_reducible apply W_cond_k; intro _ _ ea eb; (simp only [condK, cob, opnd, constPV, Nat.reduceEqDiff, Nat.reduceLT, ↓reduceIte, hcb, reduceCtorEq, forall_const, ne_eq]); subst ea eb; first | (refine ⟨fun hc => ?_, fun hc => ?_⟩ <;> first | (exfalso; omega) | (exfalso; exact hc trivial) | skip) | skip)
    | (with_reducible apply hnx; clear hnx nx)
    | (with_reducible refine And.intro (by omega) ?_)
    | (with_reducible refine And.intro ?_ ?_)
    | (with_reducible refine pcall_k (c1) ?_; rintro _ _ ⟨rfl, rfl⟩ -; refine Ev_in ?_)
    | (with_reducible refine pcall_k (c2) ?_; rintro _ _ ⟨rfl, rfl⟩ -; refine Ev_in ?_)
    | (clear hnx nx; with_reducible apply hnx; clear hnx nx)
    | (clear hnx nx; clear hnx nx; with_reducible apply hnx; clear hnx nx))
  all_goals first | exact absurd trivial hc | contradiction | exact fun h => False.elim h | (exfalso; omega) | (exfalso; have hc := of_decide_eq_false hc; omega) | (exfalso; simp only [Bool.not_false, Bool.not_true, decide_eq_true_eq, decide_eq_false_iff_not] at *; omega) | skip
  all_goals
    refine hfin _ _ (Fin_ret1 rfl (Sub_nil _) ?_); simp only [List.getD_cons_zero, List.getD_cons_succ, fr_getD_cons, fr_getD_nil, Nat.reduceEqDiff, Nat.reduceLT, ↓reduceIte]
    exact ⟨by first | rfl | trivial, by trivial⟩
theorem lives_c (G : Globs) (t : TypeId) (hG : G 1 = .gtab t powC) : PCalls Tryd.prog G 23 [] [] (fun res H => res = pbool true ∧ H = []) := by
  have c1 := example_c G
  have c2 := widths_c G exA exF [65, 86, 65, 32, 49] false exA_HA exF_HF (by decide)
  have c3 := fit_c G exA exF [65, 86, 99, 104] false 12 exA_HA exF_HF (by decide) (by decide)
  have c4 := fit_c G exA exF [65, 86, 99, 104] false 22 exA_HA exF_HF (by decide) (by decide)
  have c5 := fit_c G exA exF [65, 86, 99, 104] false 23 exA_HA exF_HF (by decide) (by decide)
  have c6 := fit_c G exA exF [65, 86, 99, 104] false (-1) exA_HA exF_HF (by decide) (by decide)
  have c7 := number_c G t hG exF 11 false exF_HF (by decide) (by decide)
  have c8 := number_c G t hG exF (-7) false exF_HF (by decide) (by decide)
  have c9 := number_c G t hG exF 0 false exF_HF (by decide) (by decide)
  have d1 := width_ex G [65, 86] false (by decide)
  have d2 := width_ex G [65, 32, 86] false (by decide)
  have d3 := width_ex G [86, 99, 104] false (by decide)
  have d4 := width_ex G [65, 86] true (by decide)
  have d5 := fvalid_c G exF exF_HF
  have d6 := sameInts_c G [7, 12, 19, 22, 27] [7, 12, 19, 22, 27] (by decide)
  rw [ex_widths] at c2
  rw [ex_f1] at c3
  rw [ex_f2] at c4
  rw [ex_f3] at c5
  rw [ex_f4] at c6
  rw [ex_n1] at c7
  rw [ex_n2] at c8
  rw [ex_n3] at c9
  rw [ex_w1] at d1
  rw [ex_w2] at d2
  rw [ex_w3] at d3
  rw [ex_w4] at d4
  rw [exF_ok] at d5
  generalize exA = a at *
  generalize exF = f at *
  have c2 : PCalls Tryd.prog G 20 [ltsP a, foP f, .val (.string ⟨#[65, 86, 65, 32, 49]⟩), .val (.bool false)] [] _ := c2
  have c3 : PCalls Tryd.prog G 25 [ltsP a, foP f, .val (.string ⟨#[65, 86, 99, 104]⟩), .val (.bool false), .val (.int .i64 12)] [] _ := c3
  have c4 : PCalls Tryd.prog G 25 [ltsP a, foP f, .val (.string ⟨#[65, 86, 99, 104]⟩), .val (.bool false), .val (.int .i64 22)] [] _ := c4
  have c5 : PCalls Tryd.prog G 25 [ltsP a, foP f, .val (.string ⟨#[65, 86, 99, 104]⟩), .val (.bool false), .val (.int .i64 23)] [] _ := c5
  have c6 : PCalls Tryd.prog G 25 [ltsP a, foP f, .val (.string ⟨#[65, 86, 99, 104]⟩), .val (.bool false), .val (.int .i64 (-1))] [] _ := c6
  have c7 : PCalls Tryd.prog G 27 [foP f, .val (.int .i64 11), .val (.bool false)] [] _ := c7
  have c8 : PCalls Tryd.prog G 27 [foP f, .val (.int .i64 (-7)), .val (.bool false)] [] _ := c8
  have c9 : PCalls Tryd.prog G 27 [foP f, .val (.int .i64 0), .val (.bool false)] [] _ := c9
  have d1 : PCalls Tryd.prog G 47 [.val (.string ⟨#[65, 86]⟩), .val (.bool false)] [] _ := d1
  have d2 : PCalls Tryd.prog G 47 [.val (.string ⟨#[65, 32, 86]⟩), .val (.bool false)] [] _ := d2
  have d3 : PCalls Tryd.prog G 47 [.val (.string ⟨#[86, 99, 104]⟩), .val (.bool false)] [] _ := d3
  have d4 : PCalls Tryd.prog G 47 [.val (.string ⟨#[65, 86]⟩), .val (.bool true)] [] _ := d4
  have d6 : PCalls Tryd.prog G 22 [wP [7, 12, 19, 22, 27], .list 1 [.val (.int .i64 7), .val (.int .i64 12), .val (.int .i64 19), .val (.int .i64 22), .val (.int .i64 27)]] [] _ := d6
  (refine PCalls_f Tryd.func23 rfl Tryd.ntmps23 Tryd.results23 (by simp) fun fin hfin => ?_; have hnm : True := trivial; simp (maxSteps := 2000000) (disch := omega) only [evb, evd, eve, constPV, seqK, blockK, scopeK, pbound, pelems, PV.mem?, PV.one, PV.cells, peqs, peq1, pkeys, pkeyt, List.set, Value.cells, ↓popG_eq, ↓pop.eq_1, ↓List.getElem?_map, ↓List.getElem?_cons_zero, ↓List.getElem?_cons_succ, Value.oneCell', Nat.reduceAdd, Nat.reduceMul, Nat.reduceSub, Nat.reduceLeDiff, Nat.reduceEqDiff, ↓reduceIte, ne_eq, reduceCtorEq, forall_const, exists_and_left, exists_eq_left', eq_self, Nat.reduceLT, Int.reduceLT, Int.reduceLE, Int.reduceToNat, Int.reduceAdd, Int.reduceSub, Int.reduceNeg, hnm, Tryd.tf0, Tryd.tf1, Tryd.tf3, Tryd.tf4, Tryd.tf5, Tryd.tf9, Tryd.tf22, Tryd.tf23, Tryd.tf27, Tryd.tf37, Tryd.tf40, Tryd.tf60, Tryd.tf77, Tryd.call16, Tryd.call20, Tryd.call22, Tryd.call25, Tryd.call27, Tryd.call46, Tryd.call47])
  repeat' (first
    | (with_reducible apply W_seq_k; intro nx hnx)
    | (with_reducible first | apply W_block | apply W_scope)
    | (with_reducible refine W_prune 255 ?_; simp only [prb, Nat.reducePow, Nat.reduceDiv, Nat.reduceMod, Nat.reduceBEq]; with_reducible apply W_region_l)
    | (with_reducible refine WL_born (by simp) rfl (by simp) ?_; simp only [elemsOf, nl, List.map_cons, List.map_nil, Nat.reduceEqDiff, ↓reduceIte, List.take_succ_cons, List.take_zero, List.range_succ, List.range_zero, List.nil_append, List.cons_append, List.map_append, List.drop_succ_cons, List.drop_zero, Nat.reduceMul, Nat.zero_mul, Nat.one_mul, Nat.reduceAdd])
    | (with_reducible refine WL_bornH (by simp) (by simp) ?_ ?_ ?_; (· simp [frz, frz1, hnm]); (· simp [frz1, hnm, PV.one, Value.oneCell']); simp only [elemsOf, nl, List.map_cons, List.map_nil, Nat.reduceEqDiff, ↓reduceIte, List.take_succ_cons, List.take_zero, List.range_succ, List.range_zero, List.nil_append, List.cons_append, List.map_append, List.drop_succ_cons, List.drop_zero, Nat.reduceMul, Nat.zero_mul, Nat.one_mul, Nat.reduceAdd])
    | ((first | (with_reducible apply WL_op; intro nx hnx) | with_reducible refine Ev_out ?_ | (with_reducible refine pfresh_k hnm fun nm hnm => ?_; (try simp only [fmb] at hnm)) | (with_reducible refine pborn_im ?_; simp only [elemsOf, nl, List.map_cons, List.map_nil, Nat.reduceEqDiff, ↓reduceIte, List.take_succ_cons, List.take_zero, List.range_succ, List.range_zero, List.nil_append, List.cons_append, List.map_append, List.drop_succ_cons, List.drop_zero, Nat.reduceMul, Nat.zero_mul, Nat.one_mul, Nat.reduceAdd])); try (simp (maxSteps := 2000000) (disch := omega) only [evb, evd, eve, constPV, seqK, blockK, scopeK, pbound, pelems, PV.mem?, PV.one, PV.cells, peqs, peq1, pkeys, pkeyt, List.set, Value.cells, ↓popG_eq, ↓pop.eq_1, ↓List.getElem?_map, ↓List.getElem?_cons_zero, ↓List.getElem?_cons_succ, Value.oneCell', Nat.reduceAdd, Nat.reduceMul, Nat.reduceSub, Nat.reduceLeDiff, Nat.reduceEqDiff, ↓reduceIte, ne_eq, reduceCtorEq, forall_const, exists_and_left, exists_eq_left', eq_self, Nat.reduceLT, Int.reduceLT, Int.reduceLE, Int.reduceToNat, Int.reduceAdd, Int.reduceSub, Int.reduceNeg, hnm, Tryd.tf0, Tryd.tf1, Tryd.tf3, Tryd.tf4, Tryd.tf5, Tryd.tf9, Tryd.tf22, Tryd.tf23, Tryd.tf27, Tryd.tf37, Tryd.tf40, Tryd.tf60, Tryd.tf77, Tryd.call16, Tryd.call20, Tryd.call22, Tryd.call25, Tryd.call27, Tryd.call46, Tryd.call47]); repeat (refine And.intro (by omega) ?_))
    | ((with_reducible first | apply WL_nil | apply W_label | apply W_skip | apply W_exit | apply W_ret); try simp only [seqK, blockK, scopeK, ↓reduceIte, Nat.reduceEqDiff])
    | (with_reducible apply pguard_intro <;> (intro hc; (try simp only [hcb, reduceCtorEq, forall_const, ne_eq] at hc); first | (exfalso; omega) | (exfalso; exact hc trivial) | refine Ev_in ?_))
    | (with_reducible apply W_cond_k; intro _ _ ea eb; (simp only [condK, cob, opnd, constPV, Nat.reduceEqDiff, Nat.reduceLT, ↓reduceIte, hcb, reduceCtorEq, forall_const, ne_eq]); subst ea eb; first | (refine ⟨fun hc => ?_, fun hc => ?_⟩ <;> first | (exfalso; omega) | (exfalso; exact hc trivial) | skip) | skip)
    | (with_reducible apply hnx; clear hnx nx)
    | (with_reducible refine And.intro (by omega) ?_)
    | (with_reducible refine And.intro ?_ ?_)
    | (with_reducible refine pcall_k (c1) ?_; rintro _ _ ⟨rfl, rfl⟩ -; refine Ev_in ?_)
    | (with_reducible refine pcall_k (c2) ?_; rintro _ _ ⟨rfl, rfl⟩ -; refine Ev_in ?_)
    | (with_reducible refine pcall_k (c3) ?_; rintro _ _ ⟨rfl, rfl⟩ -; refine Ev_in ?_)
    | (with_reducible refine pcall_k (c4) ?_; rintro _ _ ⟨rfl, rfl⟩ -; refine Ev_in ?_)
    | (with_reducible refine pcall_k (c5) ?_; rintro _ _ ⟨rfl, rfl⟩ -; refine Ev_in ?_)
    | (with_reducible refine pcall_k (c6) ?_; rintro _ _ ⟨rfl, rfl⟩ -; refine Ev_in ?_)
    | (with_reducible refine pcall_k (c7) ?_; rintro _ _ ⟨rfl, rfl⟩ -; refine Ev_in ?_)
    | (with_reducible refine pcall_k (c8) ?_; rintro _ _ ⟨rfl, rfl⟩ -; refine Ev_in ?_)
    | (with_reducible refine pcall_k (c9) ?_; rintro _ _ ⟨rfl, rfl⟩ -; refine Ev_in ?_)
    | (with_reducible refine pcall_k (d1) ?_; rintro _ _ ⟨rfl, rfl⟩ -; refine Ev_in ?_)
    | (with_reducible refine pcall_k (d2) ?_; rintro _ _ ⟨rfl, rfl⟩ -; refine Ev_in ?_)
    | (with_reducible refine pcall_k (d3) ?_; rintro _ _ ⟨rfl, rfl⟩ -; refine Ev_in ?_)
    | (with_reducible refine pcall_k (d4) ?_; rintro _ _ ⟨rfl, rfl⟩ -; refine Ev_in ?_)
    | (with_reducible refine pcall_k (d5) ?_; rintro _ _ ⟨rfl, rfl⟩ -; refine Ev_in ?_)
    | (with_reducible refine pcall_k (d6) ?_; rintro _ _ ⟨rfl, rfl⟩ -; refine Ev_in ?_)
    | (clear hnx nx; with_reducible apply hnx; clear hnx nx)
    | (clear hnx nx; clear hnx nx; with_reducible apply hnx; clear hnx nx))
  all_goals first | exact absurd trivial hc | contradiction | exact fun h => False.elim h | (exfalso; omega) | (exfalso; have hc := of_decide_eq_false hc; omega) | (exfalso; simp only [Bool.not_false, Bool.not_true, decide_eq_true_eq, decide_eq_false_iff_not] at *; omega) | skip
  all_goals
    refine hfin _ _ (Fin_ret1 rfl (Sub_nil _) ?_); simp only [List.getD_cons_zero, List.getD_cons_succ, fr_getD_cons, fr_getD_nil, Nat.reduceEqDiff, Nat.reduceLT, ↓reduceIte]
    exact ⟨by first | rfl | trivial, by trivial⟩
end Go.PM
