/- The law of the order: plainly, and its contract. Conditions: none but those that each names. -/
import Derived.Test.YtaiflmbhciophaaWr
set_option linter.unusedSimpArgs false
set_option linter.unusedVariables false
namespace Go.PM
open Go.Proofs
attribute [local irreducible] W PCalls pcall pcallI WL

theorem valF (l : List UInt8) : ∀ m : Nat, l.foldl (fun m d => 256 * m + d.toNat) m = m * 256 ^ l.length + valB l := by
  induction l with
  | nil => intro m; simp [valB]
  | cons d l ih =>
    intro m
    have h1 := ih (256 * m + d.toNat)
    have h2 := ih (256 * 0 + d.toNat)
    have e : valB (d :: l) = l.foldl (fun m d => 256 * m + d.toNat) (256 * 0 + d.toNat) := rfl
    rw [List.foldl_cons, h1, e, h2, List.length_cons, Nat.pow_succ, Nat.add_mul, Nat.add_mul]
    have : 256 * m * 256 ^ l.length = m * (256 ^ l.length * 256) := by
      rw [Nat.mul_comm 256 m, Nat.mul_assoc, Nat.mul_comm 256]
    omega
theorem valB_cons (d : UInt8) (l : List UInt8) : valB (d :: l) = d.toNat * 256 ^ l.length + valB l := by
  have := valF l (256 * 0 + d.toNat)
  rw [valB, List.foldl_cons, this]
  simp

theorem less_val : ∀ (x y : List UInt8), x.length = y.length → Op.bytesLess x y = decide (valB x < valB y)
  | [], [], _ => by simp [Op.bytesLess]
  | a :: x, b :: y, h => by
    have hl : x.length = y.length := by simpa using h
    have ih := less_val x y hl
    have h1 := valB_lt x
    have h2 := valB_lt y
    rw [Op.bytesLess, ih, valB_cons, valB_cons, hl]
    rw [hl] at h1
    have hlt : decide (a < b) = decide (a.toNat < b.toNat) := by
      rw [decide_eq_decide]
      exact UInt8.lt_iff_toNat_lt
    have heq : (a == b) = decide (a.toNat = b.toNat) := by
      rw [Bool.eq_iff_iff]
      simp [UInt8.toNat_inj]
    rw [hlt, heq]
    obtain ⟨p, hp⟩ : ∃ p, p = 256 ^ y.length := ⟨_, rfl⟩
    rw [← hp] at h1 h2 ⊢
    rcases Nat.lt_trichotomy a.toNat b.toNat with h3 | h3 | h3
    · have : (a.toNat + 1) * p ≤ b.toNat * p := Nat.mul_le_mul_right _ h3
      rw [Nat.add_mul] at this
      rw [decide_eq_true h3, Bool.true_or, eq_comm, decide_eq_true_eq]
      omega
    · rw [h3, decide_eq_false (Nat.lt_irrefl _), decide_eq_true rfl, Bool.false_or, Bool.true_and, decide_eq_decide]
      omega
    · have : (b.toNat + 1) * p ≤ a.toNat * p := Nat.mul_le_mul_right _ h3
      rw [Nat.add_mul] at this
      rw [decide_eq_false (by omega), decide_eq_false (by omega), Bool.false_and, Bool.or_false, eq_comm, decide_eq_false_iff_not]
      omega

theorem valB_flip (l : List UInt8) : valB (l.map fun d => 255 - d) + valB l + 1 = 256 ^ l.length := by
  induction l with
  | nil => simp [valB]
  | cons d l ih =>
    have := d.toNat_lt
    rw [List.map_cons, valB_cons, valB_cons, List.length_map, sub255, List.length_cons, Nat.pow_succ]
    have h2 : (255 - d.toNat) * 256 ^ l.length + d.toNat * 256 ^ l.length = 255 * 256 ^ l.length := by
      rw [← Nat.add_mul]
      congr 1
      omega
    omega

theorem digs_lt {a b : Nat} (ha : a < 9223372036854775808) (h : (digs a).length < (digs b).length) : a < b := by
  have h1 := digs_len a ha
  have h2 := (digs_pow (digs a).length a h1).1 (Nat.le_refl _)
  rcases Nat.lt_or_ge b (256 ^ (digs a).length) with h3 | h3
  · have := (digs_pow (digs a).length b h1).2 h3
    omega
  · omega
theorem flip_all (n : Int) (l : List UInt8) : l.map (flipB n) = if n < 0 then l.map (fun d => 255 - d) else l := by
  unfold flipB
  split
  · rfl
  · simp

theorem less_intB {m n : Int} (hm : inR m) (hn : inR n) : Op.bytesLess (intB m) (intB n) = decide (m < n) := by
  have km := digs_len _ (magn_lt hm)
  have kn := digs_len _ (magn_lt hn)
  have vm := digs_val _ (magn_lt hm)
  have vn := digs_val _ (magn_lt hn)
  have gm := magn_of m
  have gn := magn_of n
  have lt1 := digs_lt (b := magn n) (magn_lt hm)
  have lt2 := digs_lt (b := magn m) (magn_lt hn)
  have dm := hdB_nat m _ km
  have dn := hdB_nat n _ kn
  rw [intB_eq, intB_eq, Op.bytesLess]
  have hlt : decide (hdB m (digs (magn m)).length < hdB n (digs (magn n)).length) = decide ((hdB m (digs (magn m)).length).toNat < (hdB n (digs (magn n)).length).toNat) := by
    rw [decide_eq_decide]
    exact UInt8.lt_iff_toNat_lt
  have heq : (hdB m (digs (magn m)).length == hdB n (digs (magn n)).length) = decide ((hdB m (digs (magn m)).length).toNat = (hdB n (digs (magn n)).length).toNat) := by
    rw [Bool.eq_iff_iff]
    simp [UInt8.toNat_inj]
  rw [hlt, heq, dm, dn]
  have hl1 : (digs (magn m)).reverse.length = (digs (magn m)).length := List.length_reverse
  have hl2 : (digs (magn n)).reverse.length = (digs (magn n)).length := List.length_reverse
  generalize (digs (magn m)).reverse = ds at *
  generalize (digs (magn n)).reverse = es at *
  generalize (digs (magn m)).length = k at *
  generalize (digs (magn n)).length = j at *
  rw [flip_all, flip_all]
  have f1 := valB_flip ds
  have f2 := valB_flip es
  have key : k = j → Op.bytesLess (if m < 0 then ds.map (fun d => 255 - d) else ds) (if n < 0 then es.map (fun d => 255 - d) else es) = decide (valB (if m < 0 then ds.map (fun d => 255 - d) else ds) < valB (if n < 0 then es.map (fun d => 255 - d) else es)) := fun e => less_val _ _ (by split <;> split <;> (try simp only [List.length_map]) <;> omega)
  have hpw : k = j → 256 ^ ds.length = 256 ^ es.length := fun e => by rw [hl1, hl2, e]
  by_cases h1 : m < 0 <;> by_cases h2 : n < 0
  · simp only [if_pos h1, if_pos h2] at key gm gn ⊢
    rcases Nat.lt_trichotomy k j with h3 | h3 | h3
    · have := lt1 h3
      rw [decide_eq_false (by omega), decide_eq_false (by omega), Bool.false_and, Bool.or_false, eq_comm, decide_eq_false_iff_not]
      omega
    · have := hpw h3
      rw [key h3, decide_eq_false (by omega), decide_eq_true (by omega), Bool.true_and, Bool.false_or, decide_eq_decide]
      omega
    · have := lt2 h3
      rw [decide_eq_true (by omega), Bool.true_or, eq_comm, decide_eq_true_eq]
      omega
  · rw [if_pos h1, if_neg h2, decide_eq_true (by omega), Bool.true_or, eq_comm, decide_eq_true_eq]
    omega
  · rw [if_neg h1, if_pos h2, decide_eq_false (by omega), decide_eq_false (by omega), Bool.false_and, Bool.or_false, eq_comm, decide_eq_false_iff_not]
    omega
  · simp only [if_neg h1, if_neg h2] at key gm gn ⊢
    rcases Nat.lt_trichotomy k j with h3 | h3 | h3
    · have := lt1 h3
      rw [decide_eq_true (by omega), Bool.true_or, eq_comm, decide_eq_true_eq]
      omega
    · rw [key h3, decide_eq_false (by omega), decide_eq_true (by omega), Bool.true_and, Bool.false_or, decide_eq_decide]
      omega
    · have := lt2 h3
      rw [decide_eq_false (by omega), decide_eq_false (by omega), Bool.false_and, Bool.or_false, eq_comm, decide_eq_false_iff_not]
      omega

theorem intB_inj {m n : Int} (hm : inR m) (hn : inR n) (t u : List UInt8) (h : intB m ++ t = intB n ++ u) : m = n := by
  have h1 := gI_intB hm t
  have h2 := gI_intB hn u
  rw [h, h2] at h1
  exact (congrArg Prod.fst h1).symm
theorem eq_intB {m n : Int} (hm : inR m) (hn : inR n) : (intB m == intB n) = (m == n) := by
  rw [Bool.eq_iff_iff]
  simp only [beq_iff_eq]
  exact ⟨fun h => intB_inj hm hn [] [] (by rw [h]), fun h => by rw [h]⟩
theorem pre_intB {m n : Int} (hm : inR m) (hn : inR n) (k : Nat) (hk : k = min (intB m).length (intB n).length) : ((intB m).take k == (intB n).take k) = (m == n) := by
  rw [Bool.eq_iff_iff]
  simp only [beq_iff_eq]
  refine ⟨fun h => ?_, fun h => by rw [h]⟩
  rcases Nat.le_total (intB m).length (intB n).length with h1 | h1
  · rw [List.take_of_length_le (by omega)] at h
    refine intB_inj hm hn ((intB n).drop k) [] ?_
    rw [h, List.take_append_drop, List.append_nil]
  · rw [List.take_of_length_le (l := intB n) (by omega)] at h
    refine intB_inj hm hn [] ((intB m).drop k) ?_
    rw [← h, List.take_append_drop, List.append_nil]

set_option maxRecDepth 100000 in
set_option maxHeartbeats 8000000 in
theorem orderLaw (G : Globs) (m n : Int) (hm : inR m) (hn : inR n) : PCalls Try.prog G 5 [pint .i64 m, pint .i64 n] [] (fun res H => res = pbool true ∧ H = []) := by
  have h9 := intB_len9 hm
  have h9' := intB_len9 hn
  obtain ⟨k, hk⟩ : ∃ k, k = min (intB m).length (intB n).length := ⟨_, rfl⟩
  have hki : min ((intB m).length : Int) ((intB n).length : Int) = (k : Int) := by omega
  have hless := less_intB hm hn
  have heq := eq_intB hm hn
  have hpre := pre_intB hm hn k hk
  have hk1 : k ≤ (intB m).length := by omega
  have hk2 : k ≤ (intB n).length := by omega
  (refine PCalls_f Try.func5 rfl Try.ntmps5 Try.results5 (by simp) fun fin hfin => ?_; have hnm : True := trivial; simp (maxSteps := 2000000) (disch := omega) only [↓popG_eq, ↓pop.eq_1, ↓List.getElem?_map, ↓List.getElem?_cons_zero, ↓List.getElem?_cons_succ, pbuiltin, opnd, constPV, PState.put, fr_set, fr_getD_nil, fr_same, fr_other, layFrom, List.set, pnck, pguard_tt, pguard_tf, pguard_ft, pguard_ff, seqK, blockK, scopeK, List.map_cons, List.map_nil, List.getD_cons_zero, List.getD_cons_succ, List.getD_nil, List.getElem?_nil, Option.join_some, Option.join_none, pbin, pun, ppick, plen, pldop, pload, pfaddr, piaddr, pindex, pfield, pslice, pbound, pconv, pelems, pextract, pmm, parr, pbuild, pfill, PV.mem?, PV.one, PV.cells, pageq, peqs, peq1, palloc, pbox, pbuildS, pmakes, pstore, pappend, pcopy, pbytes, psrc, vcells, Value.oneCell', look, upd, del, names, Option.map_some, Option.map_none, List.length_cons, List.length_nil, List.all_cons, List.all_nil, Bool.and_true, Bool.true_and, Bool.not_true, Bool.not_false, List.take_zero, List.drop_zero, List.nil_append, List.cons_append, List.append_nil, Nat.reduceAdd, Nat.reduceMul, Nat.reduceSub, Nat.reduceLeDiff, Nat.reduceEqDiff, Nat.zero_add, Nat.add_zero, Nat.mul_one, Nat.zero_mul, List.drop_succ_cons, List.take_succ_cons, List.drop_nil, List.take_nil, ↓reduceIte, ne_eq, true_and, and_true, not_false_eq_true, reduceCtorEq, forall_const, List.toList_toArray, times, List.replicate_succ, List.replicate_zero, List.flatten_cons, List.flatten_nil, Value.cells, Int.toNat_natCast, Int.toNat_zero, Int.toNat_one, bl_mk, bl_lit, wr64, toNat_add1, toNat_sub1, map_getD, Int.natCast_nonneg, List.length_map, Bool.not_not, List.not_mem_nil, Option.some.injEq, exists_and_left, exists_eq_left', Int.cast_ofNat_Int, Int.natCast_zero, eq_self, List.size_toArray, Nat.reduceLT, Int.reduceLT, Int.reduceLE, Int.reduceToNat, Int.reduceAdd, Int.reduceSub, Int.reduceNeg, decide_true, decide_false, List.length_take, List.length_append, List.length_drop, hnm, Try.tf3, Try.tf4, Try.tf5, Try.tf9, Try.tf28, Try.teq56, Try.teq57, Try.call12, Try.call14])
  repeat' (first
    | (with_reducible apply W_seq_k; intro nx hnx)
    | with_reducible apply W_block
    | with_reducible apply W_scope
    | (with_reducible refine W_prune 243 ?_; simp only [prune_cons, prune_nil, Nat.reducePow, Nat.reduceDiv, Nat.reduceMod, Nat.reduceBEq, cond_true, cond_false]; with_reducible apply W_region_l)
    | (with_reducible refine W_prune 243 ?_; simp only [prune_cons, prune_nil, Nat.reducePow, Nat.reduceDiv, Nat.reduceMod, Nat.reduceBEq, cond_true, cond_false]; with_reducible refine W_region_draw (id := 1) 1 (.op 0 true (.op 3 true (.op 1 false (.op 2 true (.op 4 true (.op 5 true (.op 6 true (.op 7 true (.done))))))))) (by kernel_rfl) ?_)
    | (with_reducible refine W_prune 243 ?_; simp only [prune_cons, prune_nil, Nat.reducePow, Nat.reduceDiv, Nat.reduceMod, Nat.reduceBEq, cond_true, cond_false]; with_reducible refine W_region_draw (id := 3) 1 (.op 0 false (.op 1 true (.op 2 true (.op 3 true (.op 4 true (.op 5 true (.op 6 true (.op 7 true (.op 8 true (.op 9 true (.op 10 true (.op 11 true (.op 12 true (.op 13 true (.op 14 true (.op 15 true (.op 16 true (.op 17 true (.op 18 true (.op 19 true (.op 20 true (.op 21 true (.op 22 true (.op 23 true (.op 24 true (.op 25 true (.op 26 true (.op 27 true (.op 28 true (.op 29 true (.op 30 true (.op 31 true (.op 32 true (.done)))))))))))))))))))))))))))))))))) (by kernel_rfl) ?_)
    | ((first | (with_reducible apply WL_op; intro nx hnx) | with_reducible refine Ev_out ?_ | (with_reducible apply popsD_op; intro nx hnx) | (with_reducible refine popsD_alt ?_ ?_; intro nx hnx) | (with_reducible refine pfresh_k hnm fun nm hnm => ?_; (try simp only [List.forall_mem_cons, List.not_mem_nil, false_implies, implies_true, and_true, true_and, ne_eq] at hnm))); try (simp (maxSteps := 2000000) (disch := omega) only [↓popG_eq, ↓pop.eq_1, ↓List.getElem?_map, ↓List.getElem?_cons_zero, ↓List.getElem?_cons_succ, pbuiltin, opnd, constPV, PState.put, fr_set, fr_getD_nil, fr_same, fr_other, layFrom, List.set, pnck, pguard_tt, pguard_tf, pguard_ft, pguard_ff, seqK, blockK, scopeK, List.map_cons, List.map_nil, List.getD_cons_zero, List.getD_cons_succ, List.getD_nil, List.getElem?_nil, Option.join_some, Option.join_none, pbin, pun, ppick, plen, pldop, pload, pfaddr, piaddr, pindex, pfield, pslice, pbound, pconv, pelems, pextract, pmm, parr, pbuild, pfill, PV.mem?, PV.one, PV.cells, pageq, peqs, peq1, palloc, pbox, pbuildS, pmakes, pstore, pappend, pcopy, pbytes, psrc, vcells, Value.oneCell', look, upd, del, names, Option.map_some, Option.map_none, List.length_cons, List.length_nil, List.all_cons, List.all_nil, Bool.and_true, Bool.true_and, Bool.not_true, Bool.not_false, List.take_zero, List.drop_zero, List.nil_append, List.cons_append, List.append_nil, Nat.reduceAdd, Nat.reduceMul, Nat.reduceSub, Nat.reduceLeDiff, Nat.reduceEqDiff, Nat.zero_add, Nat.add_zero, Nat.mul_one, Nat.zero_mul, List.drop_succ_cons, List.take_succ_cons, List.drop_nil, List.take_nil, ↓reduceIte, ne_eq, true_and, and_true, not_false_eq_true, reduceCtorEq, forall_const, List.toList_toArray, times, List.replicate_succ, List.replicate_zero, List.flatten_cons, List.flatten_nil, Value.cells, Int.toNat_natCast, Int.toNat_zero, Int.toNat_one, bl_mk, bl_lit, wr64, toNat_add1, toNat_sub1, map_getD, Int.natCast_nonneg, List.length_map, Bool.not_not, List.not_mem_nil, Option.some.injEq, exists_and_left, exists_eq_left', Int.cast_ofNat_Int, Int.natCast_zero, eq_self, List.size_toArray, Nat.reduceLT, Int.reduceLT, Int.reduceLE, Int.reduceToNat, Int.reduceAdd, Int.reduceSub, Int.reduceNeg, decide_true, decide_false, List.length_take, List.length_append, List.length_drop, hnm, Try.tf3, Try.tf4, Try.tf5, Try.tf9, Try.tf28, Try.teq56, Try.teq57, Try.call12, Try.call14, all_isByte, map_unb, hki, hless, heq, hpre, beq_self_eq_true]); repeat (refine And.intro (by omega) ?_))
    | ((first | with_reducible apply WL_nil | with_reducible apply W_label | with_reducible apply W_skip | with_reducible apply W_exit | with_reducible apply W_ret | with_reducible apply popsD_done); try simp only [seqK, blockK, scopeK, ↓reduceIte, Nat.reduceEqDiff])
    | with_reducible exact popsD_stop
    | (with_reducible apply pguard_intro <;> (intro hc; (try simp only [decide_eq_true_eq, decide_eq_false_iff_not, reduceCtorEq, false_implies, true_implies, and_true, true_and, Bool.not_eq_true, Bool.not_eq_false, forall_const, bne_iff_ne, bne_eq_false_iff_eq, beq_iff_eq, beq_eq_false_iff_ne, ne_eq, Decidable.not_not, Bool.not_eq_eq_eq_not, Bool.not_true, Bool.not_false, Bool.and_eq_true, Bool.or_eq_true, Int.natCast_inj, Bool.and_eq_false_iff, Bool.or_eq_false_iff] at hc); first | (exfalso; omega) | (exfalso; exact hc trivial) | refine Ev_in ?_))
    | (with_reducible apply W_cond_k; intro _ _ ea eb; (simp only [condK, not_true_eq_false, not_false_eq_true, opnd, constPV, List.getD_cons_zero, List.getD_cons_succ, fr_getD_cons, fr_getD_nil, Nat.reduceEqDiff, Nat.reduceLT, ↓reduceIte, decide_eq_true_eq, decide_eq_false_iff_not, reduceCtorEq, false_implies, true_implies, and_true, true_and, Bool.not_eq_true, Bool.not_eq_false, forall_const, bne_iff_ne, bne_eq_false_iff_eq, beq_iff_eq, beq_eq_false_iff_ne, ne_eq, Decidable.not_not, Bool.not_eq_eq_eq_not, Bool.not_true, Bool.not_false, Bool.and_eq_true, Bool.or_eq_true, Int.natCast_inj, Bool.and_eq_false_iff, Bool.or_eq_false_iff]); subst ea eb; first | (refine ⟨fun hc => ?_, fun hc => ?_⟩ <;> first | (exfalso; omega) | (exfalso; exact hc trivial) | skip) | skip)
    | (with_reducible apply hnx; clear hnx nx)
    | (with_reducible refine And.intro (by omega) ?_)
    | (with_reducible refine And.intro ?_ ?_)
    | (with_reducible refine pcall_k (wint_c G m hm.1 hm.2) ?_; rintro _ _ ⟨rfl, rfl⟩ -; refine Ev_in ?_)
    | (with_reducible refine pcall_k (wint_c G n hn.1 hn.2) ?_; rintro _ _ ⟨rfl, rfl⟩ -; refine Ev_in ?_)
    | (with_reducible refine pcall_k (sanity_c G) ?_; rintro _ _ ⟨rfl, rfl⟩ -; refine Ev_in ?_)
    | (clear hnx nx; with_reducible apply hnx; clear hnx nx)
    | (clear hnx nx; clear hnx nx; with_reducible apply hnx; clear hnx nx)
    | (clear hnx nx; clear hnx nx; clear hnx nx; with_reducible apply hnx; clear hnx nx))
  all_goals first
    | exact rfl
    | skip
  refine hfin _ _ (Fin_ret1 rfl (Sub_nil _) ?_); simp only [List.getD_cons_zero, List.getD_cons_succ, fr_getD_cons, fr_getD_nil, Nat.reduceEqDiff, Nat.reduceLT, ↓reduceIte]
  first
  | trivial
  | exact ⟨rfl, by trivial⟩
  | (simp
     done)
  | (simp
     omega)
end Go.PM
