/- The law of separation. Conditions: none but those that each names. -/
import Derived.Test.YtoekafodjjeboaaDoorHs
import Derived.Test.YtoekafodjjeboaaDoorIf
set_option linter.unusedSimpArgs false
set_option linter.unusedVariables false
namespace Go.PM
open Go.Proofs
attribute [local irreducible] W PCalls pcall pcallI WL

theorem intB_pre {m n : Int} (hm : inR m) (hn : inR n) {u v : List UInt8} (h : intB m ++ u = intB n ++ v) : m = n ∧ u = v := by
  have e1 := gI_intB hm u
  have e2 := gI_intB hn v
  rw [h, e2] at e1
  have e3 : n = m := congrArg Prod.fst e1
  subst e3
  exact ⟨rfl, List.append_cancel_left h⟩
theorem bytesB_pre {p q u v : List UInt8} (hp : p.length ≤ 4000) (hq : q.length ≤ 4000) (h : bytesB p ++ u = bytesB q ++ v) : p = q ∧ u = v := by
  rw [bytesB, bytesB, List.append_assoc, List.append_assoc] at h
  obtain ⟨e1, e2⟩ := intB_pre ⟨by omega, by omega⟩ ⟨by omega, by omega⟩ h
  have e3 : p.length = q.length := by omega
  exact List.append_inj e2 e3
theorem bytesB_ne (p : List UInt8) : bytesB p ≠ [] := by
  rw [bytesB, intB]
  simp
theorem flatB_inj : ∀ (x y : List (List UInt8)), (∀ p ∈ x, p.length ≤ 4000) → (∀ p ∈ y, p.length ≤ 4000) → x.flatMap bytesB = y.flatMap bytesB → x = y
  | [], [], _, _, _ => rfl
  | [], q :: y, _, _, h => by
    rw [List.flatMap_nil, List.flatMap_cons] at h
    exact absurd (List.append_eq_nil_iff.1 h.symm).1 (bytesB_ne q)
  | p :: x, [], _, _, h => by
    rw [List.flatMap_nil, List.flatMap_cons] at h
    exact absurd (List.append_eq_nil_iff.1 h).1 (bytesB_ne p)
  | p :: x, q :: y, hx, hy, h => by
    rw [List.flatMap_cons, List.flatMap_cons] at h
    obtain ⟨e1, e2⟩ := bytesB_pre (hx p (.head _)) (hy q (.head _)) h
    rw [e1, flatB_inj x y (fun r hr => hx r (.tail _ hr)) (fun r hr => hy r (.tail _ hr)) e2]
theorem tagB_u8 (t : UInt8) : tagB ((t.toNat : Nat) : Int) = t := by
  have := t.toNat_lt
  apply UInt8.toNat_inj.1
  have h : (((t.toNat : Nat) : Int) % 256).toNat = t.toNat := by omega
  rw [tagB, h]
  simp
theorem ofIn_inj {s t : UInt8} {x y : List (List UInt8)} (hx : ∀ p ∈ x, p.length ≤ 4000) (hy : ∀ p ∈ y, p.length ≤ 4000) : ofIn ((s.toNat : Nat) : Int) x = ofIn ((t.toNat : Nat) : Int) y ↔ s = t ∧ x = y := by
  constructor
  · intro h
    rw [ofIn, ofIn, tagB_u8, tagB_u8] at h
    obtain ⟨e1, e2⟩ := List.cons.inj h
    exact ⟨e1, flatB_inj x y hx hy e2⟩
  · rintro ⟨rfl, rfl⟩
    rfl

theorem take_dec {α : Type} [DecidableEq α] {A C : List α} {j : Nat} {p q : α} (hp : A[j]? = some p) (hq : C[j]? = some q) (hl : (A.take j).length = (C.take j).length) : decide (A.take (j + 1) = C.take (j + 1)) = (decide (A.take j = C.take j) && decide (p = q)) := by
  have e : A.take (j + 1) = C.take (j + 1) ↔ A.take j = C.take j ∧ p = q := by
    rw [List.take_add_one, List.take_add_one, hp, hq, Option.toList_some, Option.toList_some]
    constructor
    · intro h
      have h2 := List.append_inj h hl
      exact ⟨h2.1, (List.cons.inj h2.2).1⟩
    · rintro ⟨h1, rfl⟩
      rw [h1]
  rw [Bool.eq_iff_iff]
  simp only [Bool.and_eq_true, decide_eq_true_eq]
  exact e

set_option maxRecDepth 100000 in
set_option maxHeartbeats 16000000 in
theorem law8 (G : Globs) (hG1 : G 1 = .iptr (KS.map pw) 0) (s t : UInt8) (x y : List (List UInt8)) (hx : (x.length : Int) ≤ 9223372036854775807) (hy : (y.length : Int) ≤ 9223372036854775807) : PCalls Tryd.prog G 8 [.agg [pbyte s, pbyte t], .list 1 (x.map pstr), .list 1 (y.map pstr)] [] (fun res H => res = pbool true ∧ H = []) := by
  have cx := few_c G x hx
  have cy := few_c G y hy
  by_cases hf : (x.length ≤ 12 ∧ ∀ p ∈ x, p.length ≤ 400) ∧ (y.length ≤ 12 ∧ ∀ p ∈ y, p.length ≤ 400)
  · rw [decide_eq_true hf.1] at cx
    rw [decide_eq_true hf.2] at cy
    obtain ⟨⟨hxn, hxp⟩, hyn, hyp⟩ := hf
    have hx2 : ∀ p ∈ x, p.length ≤ 4000 := fun p hm => by have := hxp p hm; omega
    have hy2 : ∀ p ∈ y, p.length ≤ 4000 := fun p hm => by have := hyp p hm; omega
    have hb1 := s.toNat_lt
    have hb2 := t.toNat_lt
    obtain ⟨sm, hsm⟩ : ∃ sm, sm = decide (s = t ∧ x.length = y.length) := ⟨_, rfl⟩
    (refine PCalls_f Tryd.func8 rfl Tryd.ntmps8 Tryd.results8 (by simp) fun fin hfin => ?_; have hnm : True := trivial; simp (maxSteps := 2000000) (disch := omega) only [↓popG_eq, ↓pop.eq_1, ↓List.getElem?_map, ↓List.getElem?_cons_zero, ↓List.getElem?_cons_succ, pbuiltin, opnd, constPV, PState.put, fr_set, fr_getD_nil, fr_same, fr_other, layFrom, List.set, pnck, pguard_tt, pguard_tf, pguard_ft, pguard_ff, seqK, blockK, scopeK, List.map_cons, List.map_nil, List.getD_cons_zero, List.getD_cons_succ, List.getD_nil, List.getElem?_nil, Option.join_some, Option.join_none, pbin, pun, ppick, plen, pldop, pload, pfaddr, piaddr, pindex, pfield, pslice, pbound, pconv, pelems, pextract, pmm, parr, pbuild, pfill, PV.mem?, PV.one, PV.cells, pageq, peqs, peq1, palloc, pbox, pbuildS, pmakes, pstore, pappend, pcopy, pbytes, pmark, psrc, vcells, Value.oneCell', look, upd, del, names, Option.map_some, Option.map_none, List.length_cons, List.length_nil, List.all_cons, List.all_nil, Bool.and_true, Bool.true_and, Bool.not_true, Bool.not_false, List.take_zero, List.drop_zero, List.nil_append, List.cons_append, List.append_nil, Nat.reduceAdd, Nat.reduceMul, Nat.reduceSub, Nat.reduceLeDiff, Nat.reduceEqDiff, Nat.zero_add, Nat.add_zero, Nat.mul_one, Nat.zero_mul, List.drop_succ_cons, List.take_succ_cons, List.drop_nil, List.take_nil, ↓reduceIte, ne_eq, true_and, and_true, not_false_eq_true, reduceCtorEq, forall_const, List.toList_toArray, times, List.replicate_succ, List.replicate_zero, List.flatten_cons, List.flatten_nil, Value.cells, Int.toNat_natCast, Int.toNat_zero, Int.toNat_one, bl_mk, bl_lit, wr64, toNat_add1, toNat_sub1, map_getD, Int.natCast_nonneg, List.length_map, Bool.not_not, List.not_mem_nil, Option.some.injEq, exists_and_left, exists_eq_left', Int.cast_ofNat_Int, Int.natCast_zero, eq_self, List.size_toArray, Nat.reduceLT, Int.reduceLT, Int.reduceLE, Int.reduceToNat, Int.reduceAdd, Int.reduceSub, Int.reduceNeg, decide_true, decide_false, List.length_take, List.length_append, List.length_drop, hnm, Tryd.tf0, Tryd.tf3, Tryd.tf4, Tryd.tf5, Tryd.tf9, Tryd.tf22, Tryd.tf24, Tryd.teq24, Tryd.tf27, Tryd.teq30, Tryd.teq31, Tryd.teq43, Tryd.tf44, Tryd.teq44, Tryd.tf48, Tryd.teq48, Tryd.teq54, Tryd.teq63, Tryd.call10, Tryd.call11, Tryd.call13, Tryd.call21, Tryd.call23])
    repeat' (first
    | (with_reducible apply W_seq_k; intro nx hnx)
    | with_reducible apply W_block
    | with_reducible apply W_scope
    | (with_reducible refine W_prune 262095 ?_; simp only [prune_cons, prune_nil, Nat.reducePow, Nat.reduceDiv, Nat.reduceMod, Nat.reduceBEq, cond_true, cond_false]; with_reducible apply W_region_l)
    | (with_reducible refine W_prune 262095 ?_; simp only [prune_cons, prune_nil, Nat.reducePow, Nat.reduceDiv, Nat.reduceMod, Nat.reduceBEq, cond_true, cond_false]; with_reducible refine W_region_draw (id := 8) 1 (.op 0 true (.op 1 true (.op 2 true (.op 3 true (.op 4 true (.op 5 true (.op 6 true (.op 7 true (.op 8 true (.op 9 true (.done))))))))))) (by kernel_rfl) ?_)
    | (with_reducible refine W_prune 262095 ?_; simp only [prune_cons, prune_nil, Nat.reducePow, Nat.reduceDiv, Nat.reduceMod, Nat.reduceBEq, cond_true, cond_false]; with_reducible refine W_region_draw (id := 21) 1 (.op 0 true (.op 1 true (.op 2 true (.op 3 true (.op 4 true (.op 5 true (.op 6 true (.op 7 true (.op 8 true (.op 9 true (.op 10 true (.done)))))))))))) (by kernel_rfl) ?_)
    | ((first | (with_reducible apply WL_op; intro nx hnx) | with_reducible refine Ev_out ?_ | (with_reducible apply popsD_op; intro nx hnx) | (with_reducible refine popsD_alt ?_ ?_; intro nx hnx) | (with_reducible refine pfresh_k hnm fun nm hnm => ?_; (try simp only [List.forall_mem_cons, List.not_mem_nil, false_implies, implies_true, and_true, true_and, ne_eq] at hnm))); try (simp (maxSteps := 2000000) (disch := omega) only [↓popG_eq, ↓pop.eq_1, ↓List.getElem?_map, ↓List.getElem?_cons_zero, ↓List.getElem?_cons_succ, pbuiltin, opnd, constPV, PState.put, fr_set, fr_getD_nil, fr_same, fr_other, layFrom, List.set, pnck, pguard_tt, pguard_tf, pguard_ft, pguard_ff, seqK, blockK, scopeK, List.map_cons, List.map_nil, List.getD_cons_zero, List.getD_cons_succ, List.getD_nil, List.getElem?_nil, Option.join_some, Option.join_none, pbin, pun, ppick, plen, pldop, pload, pfaddr, piaddr, pindex, pfield, pslice, pbound, pconv, pelems, pextract, pmm, parr, pbuild, pfill, PV.mem?, PV.one, PV.cells, pageq, peqs, peq1, palloc, pbox, pbuildS, pmakes, pstore, pappend, pcopy, pbytes, pmark, psrc, vcells, Value.oneCell', look, upd, del, names, Option.map_some, Option.map_none, List.length_cons, List.length_nil, List.all_cons, List.all_nil, Bool.and_true, Bool.true_and, Bool.not_true, Bool.not_false, List.take_zero, List.drop_zero, List.nil_append, List.cons_append, List.append_nil, Nat.reduceAdd, Nat.reduceMul, Nat.reduceSub, Nat.reduceLeDiff, Nat.reduceEqDiff, Nat.zero_add, Nat.add_zero, Nat.mul_one, Nat.zero_mul, List.drop_succ_cons, List.take_succ_cons, List.drop_nil, List.take_nil, ↓reduceIte, ne_eq, true_and, and_true, not_false_eq_true, reduceCtorEq, forall_const, List.toList_toArray, times, List.replicate_succ, List.replicate_zero, List.flatten_cons, List.flatten_nil, Value.cells, Int.toNat_natCast, Int.toNat_zero, Int.toNat_one, bl_mk, bl_lit, wr64, toNat_add1, toNat_sub1, map_getD, Int.natCast_nonneg, List.length_map, Bool.not_not, List.not_mem_nil, Option.some.injEq, exists_and_left, exists_eq_left', Int.cast_ofNat_Int, Int.natCast_zero, eq_self, List.size_toArray, Nat.reduceLT, Int.reduceLT, Int.reduceLE, Int.reduceToNat, Int.reduceAdd, Int.reduceSub, Int.reduceNeg, decide_true, decide_false, List.length_take, List.length_append, List.length_drop, hnm, Tryd.tf0, Tryd.tf3, Tryd.tf4, Tryd.tf5, Tryd.tf9, Tryd.tf22, Tryd.tf24, Tryd.teq24, Tryd.tf27, Tryd.teq30, Tryd.teq31, Tryd.teq43, Tryd.tf44, Tryd.teq44, Tryd.tf48, Tryd.teq48, Tryd.teq54, Tryd.teq63, Tryd.call10, Tryd.call11, Tryd.call13, Tryd.call21, Tryd.call23]); repeat (refine And.intro (by omega) ?_))
    | ((first | with_reducible apply WL_nil | with_reducible apply W_label | with_reducible apply W_skip | with_reducible apply W_exit | with_reducible apply W_ret | with_reducible apply popsD_done); try simp only [seqK, blockK, scopeK, ↓reduceIte, Nat.reduceEqDiff])
    | with_reducible exact popsD_stop
    | (with_reducible apply pguard_intro <;> (intro hc; (try simp only [decide_eq_true_eq, decide_eq_false_iff_not, reduceCtorEq, false_implies, true_implies, and_true, true_and, Bool.not_eq_true, Bool.not_eq_false, forall_const, bne_iff_ne, bne_eq_false_iff_eq, beq_iff_eq, beq_eq_false_iff_ne, ne_eq, Decidable.not_not, Bool.not_eq_eq_eq_not, Bool.not_true, Bool.not_false, Bool.and_eq_true, Bool.or_eq_true, Int.natCast_inj, Bool.and_eq_false_iff, Bool.or_eq_false_iff] at hc); first | (exfalso; omega) | (exfalso; exact hc trivial) | refine Ev_in ?_))
    | (with_reducible apply W_cond_k; intro _ _ ea eb; (simp only [condK, not_true_eq_false, not_false_eq_true, opnd, constPV, List.getD_cons_zero, List.getD_cons_succ, fr_getD_cons, fr_getD_nil, Nat.reduceEqDiff, Nat.reduceLT, ↓reduceIte, decide_eq_true_eq, decide_eq_false_iff_not, reduceCtorEq, false_implies, true_implies, and_true, true_and, Bool.not_eq_true, Bool.not_eq_false, forall_const, bne_iff_ne, bne_eq_false_iff_eq, beq_iff_eq, beq_eq_false_iff_ne, ne_eq, Decidable.not_not, Bool.not_eq_eq_eq_not, Bool.not_true, Bool.not_false, Bool.and_eq_true, Bool.or_eq_true, Int.natCast_inj, Bool.and_eq_false_iff, Bool.or_eq_false_iff]); subst ea eb; first | (refine ⟨fun hc => ?_, fun hc => ?_⟩ <;> first | (exfalso; omega) | (exfalso; exact hc trivial) | skip) | skip)
    | (with_reducible apply hnx; clear hnx nx)
    | (with_reducible refine And.intro (by omega) ?_)
    | (with_reducible refine And.intro ?_ ?_)
    | (with_reducible refine pcall_k (sanity_c G hG1) ?_; rintro _ _ ⟨rfl, rfl⟩ -; refine Ev_in ?_)
    | (with_reducible refine pcall_k (cx) ?_; rintro _ _ ⟨rfl, rfl⟩ -; refine Ev_in ?_)
    | (with_reducible refine pcall_k (cy) ?_; rintro _ _ ⟨rfl, rfl⟩ -; refine Ev_in ?_)
    | (clear hnx nx; with_reducible apply hnx; clear hnx nx)
    | (clear hnx nx; clear hnx nx; with_reducible apply hnx; clear hnx nx)
    | (clear hnx nx; clear hnx nx; clear hnx nx; with_reducible apply hnx; clear hnx nx))
    all_goals
      obtain ⟨N3, hN3⟩ : ∃ N, N = nm := ⟨_, rfl⟩
      subst hN3
      first
      | (have e8 : ((x.length : Int) == (y.length : Int)) = sm := by
           rw [hsm, Bool.eq_iff_iff]
           simp only [beq_iff_eq, decide_eq_true_eq]
           have hst : s = t := UInt8.toNat_inj.1 (by omega)
           exact ⟨fun h => ⟨hst, by omega⟩, fun h => by omega⟩
         rw [e8])
      | (have e8 : false = sm := by
           rw [hsm]
           exact (decide_eq_false fun h => by
             have := congrArg UInt8.toNat h.1
             omega).symm
         rw [show PV.val (Value.bool false) = pbool sm from congrArg pbool e8])
    all_goals
      clear hnm
      have hnm : True := trivial
      refine W_loop_k (fun z τ => ∃ (i : Nat) (b : Bool), i ≤ x.length ∧ z = x.length - i ∧ b = decide ((s = t ∧ x.length = y.length) ∧ x.take i = y.take i) ∧ τ = ⟨fr 120 [(9, pint .i64 i), (8, pbool b), (7, pbool true), (3, .ptr N3 0), (1, .list 1 (x.map pstr)), (2, .list 1 (y.map pstr))], [(N3, ⟨48, false, 0, [pbyte s, pbyte t]⟩)]⟩) x.length
        ⟨fr 120 [(9, pint .i64 (0 : Nat)), (8, pbool sm), (7, pbool true), (3, .ptr N3 0), (1, .list 1 (x.map pstr)), (2, .list 1 (y.map pstr))], [(N3, ⟨48, false, 0, [pbyte s, pbyte t]⟩)]⟩ (by
        exact Wk_fr (by simp only [List.forall_mem_cons, List.not_mem_nil, false_implies, implies_true, and_true, true_and, and_self, fr_getD_cons, fr_getD_nil, Nat.reduceEqDiff, Nat.reduceLT, ↓reduceIte, Int.natCast_add, Int.cast_ofNat_Int, Int.natCast_zero]) ⟨by simp, by simp [names]⟩) ⟨0, sm, by omega, by omega, by rw [hsm]; simp, rfl⟩ ?_
      rintro z τ ⟨i, b, hi, rfl, hb, rfl⟩ lp hlp
      cases b
      · have hE : ¬ (s = t ∧ x = y) := by
          rintro ⟨rfl, rfl⟩
          have := of_decide_eq_false hb.symm
          exact this ⟨⟨rfl, rfl⟩, rfl⟩
        clear hlp hb hi
        have iA := input_c G ((s.toNat : Nat) : Int) x hx2 (by omega)
        have iB := input_c G ((t.toNat : Nat) : Int) y hy2 (by omega)
        have oA := hof_c G hG1 ((s.toNat : Nat) : Int) x hx2 (by omega)
        have oB := hof_c G hG1 ((t.toNat : Nat) : Int) y hy2 (by omega)
        have lA := ofIn_le ((s.toNat : Nat) : Int) x hx2 (by omega)
        have lB := ofIn_le ((t.toNat : Nat) : Int) y hy2 (by omega)
        have hne : ofIn ((s.toNat : Nat) : Int) x ≠ ofIn ((t.toNat : Nat) : Int) y := fun h => hE ((ofIn_inj hx2 hy2).1 h)
        have dA : ofH ((s.toNat : Nat) : Int) x = (sha (ofIn ((s.toNat : Nat) : Int) x)).take 16 := rfl
        have dB : ofH ((t.toNat : Nat) : Int) y = (sha (ofIn ((t.toNat : Nat) : Int) y)).take 16 := rfl
        have sA := ofH_len ((s.toNat : Nat) : Int) x
        have sB := ofH_len ((t.toNat : Nat) : Int) y
        rw [dA] at oA sA
        rw [dB] at oB sB
        generalize ofIn ((s.toNat : Nat) : Int) x = a at *
        generalize ofIn ((t.toNat : Nat) : Int) y = c at *
        have gA := hsum_c G hG1 a (by omega)
        have gB := hsum_c G hG1 c (by omega)
        have zA := sha_len a
        have zC := sha_len c
        obtain ⟨A, hA⟩ : ∃ A, A = sha a := ⟨_, rfl⟩
        obtain ⟨C, hC⟩ : ∃ C, C = sha c := ⟨_, rfl⟩
        rw [← hA] at oA sA gA zA
        rw [← hC] at oB sB gB zC
        have p1 := all_one_byte A
        have p2 := all_one_byte C
        have p3 := all_one_byte (A.take 16)
        have p4 := all_one_byte (C.take 16)
        have k1 : List.take 32 (A.map pbyte) = A.map pbyte := List.take_of_length_le (by rw [List.length_map]; omega)
        have k2 : List.take 32 (C.map pbyte) = C.map pbyte := List.take_of_length_le (by rw [List.length_map]; omega)
        have k3 : List.take 16 ((A.take 16).map pbyte) = (A.take 16).map pbyte := List.take_of_length_le (by rw [List.length_map]; omega)
        have k4 : List.take 16 ((C.take 16).map pbyte) = (C.take 16).map pbyte := List.take_of_length_le (by rw [List.length_map]; omega)
        obtain ⟨A6, hA6⟩ : ∃ A6, A6 = A.take 16 := ⟨_, rfl⟩
        obtain ⟨C6, hC6⟩ : ∃ C6, C6 = C.take 16 := ⟨_, rfl⟩
        rw [← hA6] at p3 k3 oA sA
        rw [← hC6] at p4 k4 oB sB
        have w1 : IntKind.i64.wrap ((s.toNat : Nat) : Int) = ((s.toNat : Nat) : Int) := wr64 _ (by omega) (by omega)
        have w2 : IntKind.i64.wrap ((t.toNat : Nat) : Int) = ((t.toNat : Nat) : Int) := wr64 _ (by omega) (by omega)
        repeat' (first
    | (with_reducible apply W_seq_k; intro nx hnx)
    | with_reducible apply W_block
    | with_reducible apply W_scope
    | (with_reducible refine W_prune 262095 ?_; simp only [prune_cons, prune_nil, Nat.reducePow, Nat.reduceDiv, Nat.reduceMod, Nat.reduceBEq, cond_true, cond_false]; with_reducible apply W_region_l)
    | (with_reducible refine W_prune 262095 ?_; simp only [prune_cons, prune_nil, Nat.reducePow, Nat.reduceDiv, Nat.reduceMod, Nat.reduceBEq, cond_true, cond_false]; with_reducible refine W_region_draw (id := 8) 1 (.op 0 true (.op 1 true (.op 2 true (.op 3 true (.op 4 true (.op 5 true (.op 6 true (.op 7 true (.op 8 true (.op 9 true (.done))))))))))) (by kernel_rfl) ?_)
    | (with_reducible refine W_prune 262095 ?_; simp only [prune_cons, prune_nil, Nat.reducePow, Nat.reduceDiv, Nat.reduceMod, Nat.reduceBEq, cond_true, cond_false]; with_reducible refine W_region_draw (id := 21) 1 (.op 0 true (.op 1 true (.op 2 true (.op 3 true (.op 4 true (.op 5 true (.op 6 true (.op 7 true (.op 8 true (.op 9 true (.op 10 true (.done)))))))))))) (by kernel_rfl) ?_)
    | ((first | (with_reducible apply WL_op; intro nx hnx) | with_reducible refine Ev_out ?_ | (with_reducible apply popsD_op; intro nx hnx) | (with_reducible refine popsD_alt ?_ ?_; intro nx hnx) | (with_reducible refine pfresh_k hnm fun nm hnm => ?_; (try simp only [List.forall_mem_cons, List.not_mem_nil, false_implies, implies_true, and_true, true_and, ne_eq] at hnm))); try (simp (maxSteps := 2000000) (disch := omega) only [↓popG_eq, ↓pop.eq_1, ↓List.getElem?_map, ↓List.getElem?_cons_zero, ↓List.getElem?_cons_succ, pbuiltin, opnd, constPV, PState.put, fr_set, fr_getD_nil, fr_same, fr_other, layFrom, List.set, pnck, pguard_tt, pguard_tf, pguard_ft, pguard_ff, seqK, blockK, scopeK, List.map_cons, List.map_nil, List.getD_cons_zero, List.getD_cons_succ, List.getD_nil, List.getElem?_nil, Option.join_some, Option.join_none, pbin, pun, ppick, plen, pldop, pload, pfaddr, piaddr, pindex, pfield, pslice, pbound, pconv, pelems, pextract, pmm, parr, pbuild, pfill, PV.mem?, PV.one, PV.cells, pageq, peqs, peq1, palloc, pbox, pbuildS, pmakes, pstore, pappend, pcopy, pbytes, pmark, psrc, vcells, Value.oneCell', look, upd, del, names, Option.map_some, Option.map_none, List.length_cons, List.length_nil, List.all_cons, List.all_nil, Bool.and_true, Bool.true_and, Bool.not_true, Bool.not_false, List.take_zero, List.drop_zero, List.nil_append, List.cons_append, List.append_nil, Nat.reduceAdd, Nat.reduceMul, Nat.reduceSub, Nat.reduceLeDiff, Nat.reduceEqDiff, Nat.zero_add, Nat.add_zero, Nat.mul_one, Nat.zero_mul, List.drop_succ_cons, List.take_succ_cons, List.drop_nil, List.take_nil, ↓reduceIte, ne_eq, true_and, and_true, not_false_eq_true, reduceCtorEq, forall_const, List.toList_toArray, times, List.replicate_succ, List.replicate_zero, List.flatten_cons, List.flatten_nil, Value.cells, Int.toNat_natCast, Int.toNat_zero, Int.toNat_one, bl_mk, bl_lit, wr64, toNat_add1, toNat_sub1, map_getD, Int.natCast_nonneg, List.length_map, Bool.not_not, List.not_mem_nil, Option.some.injEq, exists_and_left, exists_eq_left', Int.cast_ofNat_Int, Int.natCast_zero, eq_self, List.size_toArray, Nat.reduceLT, Int.reduceLT, Int.reduceLE, Int.reduceToNat, Int.reduceAdd, Int.reduceSub, Int.reduceNeg, decide_true, decide_false, List.length_take, List.length_append, List.length_drop, hnm, Tryd.tf0, Tryd.tf3, Tryd.tf4, Tryd.tf5, Tryd.tf9, Tryd.tf22, Tryd.tf24, Tryd.teq24, Tryd.tf27, Tryd.teq30, Tryd.teq31, Tryd.teq43, Tryd.tf44, Tryd.teq44, Tryd.tf48, Tryd.teq48, Tryd.teq54, Tryd.teq63, Tryd.call10, Tryd.call11, Tryd.call13, Tryd.call21, Tryd.call23, w1, w2, zA, zC, sA, sB, p1, p2, p3, p4, k1, k2, k3, k4]); repeat (refine And.intro (by omega) ?_))
    | ((first | with_reducible apply WL_nil | with_reducible apply W_label | with_reducible apply W_skip | with_reducible apply W_exit | with_reducible apply W_ret | with_reducible apply popsD_done); try simp only [seqK, blockK, scopeK, ↓reduceIte, Nat.reduceEqDiff])
    | with_reducible exact popsD_stop
    | (with_reducible apply pguard_intro <;> (intro hc; (try simp only [decide_eq_true_eq, decide_eq_false_iff_not, reduceCtorEq, false_implies, true_implies, and_true, true_and, Bool.not_eq_true, Bool.not_eq_false, forall_const, bne_iff_ne, bne_eq_false_iff_eq, beq_iff_eq, beq_eq_false_iff_ne, ne_eq, Decidable.not_not, Bool.not_eq_eq_eq_not, Bool.not_true, Bool.not_false, Bool.and_eq_true, Bool.or_eq_true, Int.natCast_inj, Bool.and_eq_false_iff, Bool.or_eq_false_iff] at hc); first | (exfalso; omega) | (exfalso; exact hc trivial) | refine Ev_in ?_))
    | (with_reducible apply W_cond_k; intro _ _ ea eb; (simp only [condK, not_true_eq_false, not_false_eq_true, opnd, constPV, List.getD_cons_zero, List.getD_cons_succ, fr_getD_cons, fr_getD_nil, Nat.reduceEqDiff, Nat.reduceLT, ↓reduceIte, decide_eq_true_eq, decide_eq_false_iff_not, reduceCtorEq, false_implies, true_implies, and_true, true_and, Bool.not_eq_true, Bool.not_eq_false, forall_const, bne_iff_ne, bne_eq_false_iff_eq, beq_iff_eq, beq_eq_false_iff_ne, ne_eq, Decidable.not_not, Bool.not_eq_eq_eq_not, Bool.not_true, Bool.not_false, Bool.and_eq_true, Bool.or_eq_true, Int.natCast_inj, Bool.and_eq_false_iff, Bool.or_eq_false_iff]); subst ea eb; first | (refine ⟨fun hc => ?_, fun hc => ?_⟩ <;> first | (exfalso; omega) | (exfalso; exact hc trivial) | skip) | skip)
    | (with_reducible apply hnx; clear hnx nx)
    | (with_reducible refine And.intro (by omega) ?_)
    | (with_reducible refine And.intro ?_ ?_)
    | (with_reducible refine pcall_k (iA) ?_; rintro _ _ ⟨rfl, rfl⟩ -; refine Ev_in ?_)
    | (with_reducible refine pcall_k (iB) ?_; rintro _ _ ⟨rfl, rfl⟩ -; refine Ev_in ?_)
    | (with_reducible refine pcall_k (oA) ?_; rintro _ _ ⟨rfl, rfl⟩ -; refine Ev_in ?_)
    | (with_reducible refine pcall_k (oB) ?_; rintro _ _ ⟨rfl, rfl⟩ -; refine Ev_in ?_)
    | (with_reducible refine pcall_k (gA) ?_; rintro _ _ ⟨rfl, rfl⟩ -; refine Ev_in ?_)
    | (with_reducible refine pcall_k (gB) ?_; rintro _ _ ⟨rfl, rfl⟩ -; refine Ev_in ?_)
    | (clear hnx nx; with_reducible apply hnx; clear hnx nx)
    | (clear hnx nx; clear hnx nx; with_reducible apply hnx; clear hnx nx)
    | (clear hnx nx; clear hnx nx; clear hnx nx; with_reducible apply hnx; clear hnx nx))
        all_goals first
          | exact rfl
          | (exfalso
             omega)
          | (exfalso
             exact absurd ‹_ = true› (by decide))
          | skip
        all_goals
          rename_i N12 _ N13 _ N14 _
          obtain ⟨N15, hN15⟩ : ∃ N, N = nm := ⟨_, rfl⟩
          subst hN15
          have hnd : [N15, N14, N13, N12].Nodup := by simp [hnm]
          have hd := hnd
          simp only [List.nodup_cons, List.mem_cons, List.not_mem_nil, or_false, not_or, List.nodup_nil, and_true, not_false_eq_true] at hd
          clear hnm
          have hnm : (((¬ N15 = N14 ∧ ¬ N14 = N15) ∧ (¬ N15 = N13 ∧ ¬ N13 = N15) ∧ ¬ N15 = N12 ∧ ¬ N12 = N15) ∧ (¬ N14 = N13 ∧ ¬ N13 = N14) ∧ ¬ N14 = N12 ∧ ¬ N12 = N14) ∧ ¬ N13 = N12 ∧ ¬ N12 = N13 :=
            ⟨⟨⟨⟨hd.1.1, fun e => hd.1.1 e.symm⟩, ⟨hd.1.2.1, fun e => hd.1.2.1 e.symm⟩, hd.1.2.2, fun e => hd.1.2.2 e.symm⟩, ⟨hd.2.1.1, fun e => hd.2.1.1 e.symm⟩, hd.2.1.2, fun e => hd.2.1.2 e.symm⟩, hd.2.2, fun e => hd.2.2 e.symm⟩
          refine W_loop_k (fun z τ => ∃ (j : Nat) (b : Bool), j ≤ 16 ∧ z = 16 - j ∧ b = decide (A.take j = C.take j) ∧ τ = ⟨fr 120 [(17, pint .i64 j), (16, pbool b), (15, .ptr N15 0), (14, .ptr N14 0), (13, .ptr N13 0), (12, .ptr N12 0), (11, .list 1 (c.map pbyte)), (10, .list 1 (a.map pbyte)), (7, pbool true)], [(N15, ⟨24, false, 0, C.map pbyte⟩), (N14, ⟨24, false, 0, A.map pbyte⟩), (N13, ⟨44, false, 0, C6.map pbyte⟩), (N12, ⟨44, false, 0, A6.map pbyte⟩)]⟩) 16
            ⟨fr 120 [(17, pint .i64 (0 : Nat)), (16, pbool true), (15, .ptr N15 0), (14, .ptr N14 0), (13, .ptr N13 0), (12, .ptr N12 0), (11, .list 1 (c.map pbyte)), (10, .list 1 (a.map pbyte)), (7, pbool true)], [(N15, ⟨24, false, 0, C.map pbyte⟩), (N14, ⟨24, false, 0, A.map pbyte⟩), (N13, ⟨44, false, 0, C6.map pbyte⟩), (N12, ⟨44, false, 0, A6.map pbyte⟩)]⟩ (by
            refine Wk_fr (by simp only [List.forall_mem_cons, List.not_mem_nil, false_implies, implies_true, and_true, true_and, and_self, fr_getD_cons, fr_getD_nil, Nat.reduceEqDiff, Nat.reduceLT, ↓reduceIte, Int.natCast_add, Int.cast_ofNat_Int, Int.natCast_zero]) ?_
            exact ⟨by simp, by simp [names, hd]⟩) ⟨0, true, by omega, by omega, by simp, rfl⟩ ?_
          rintro z τ ⟨j, b, hj, rfl, hb, rfl⟩ lp hlp
          have hA2 : (A.map pbyte).length = 32 := by rw [List.length_map, zA]
          have hC2 : (C.map pbyte).length = 32 := by rw [List.length_map, zC]
          by_cases hj2 : j < 16
          · obtain ⟨p, hp⟩ : ∃ p, A[j]? = some p := ⟨_, List.getElem?_eq_getElem (by omega)⟩
            obtain ⟨q, hq⟩ : ∃ q, C[j]? = some q := ⟨_, List.getElem?_eq_getElem (by omega)⟩
            have hp2 : A[j]'(by omega) = p := by
              rw [List.getElem?_eq_getElem (by omega)] at hp
              exact Option.some.inj hp
            have hq2 : C[j]'(by omega) = q := by
              rw [List.getElem?_eq_getElem (by omega)] at hq
              exact Option.some.inj hq
            have hst : decide (A.take (j + 1) = C.take (j + 1)) = (b && decide (p = q)) := by rw [take_dec hp hq (by rw [List.length_take, List.length_take, zA, zC]), hb]
            have hpq : ((p.toNat : Int) == (q.toNat : Int)) = decide (p = q) := by
              rw [Bool.eq_iff_iff]
              simp only [beq_iff_eq, decide_eq_true_eq]
              exact ⟨fun h => UInt8.toNat_inj.1 (Int.ofNat_inj.1 h), fun h => by rw [h]⟩
            clear hb
            cases b
            · rw [Bool.false_and] at hst
              repeat' (first
    | (with_reducible apply W_seq_k; intro nx hnx)
    | with_reducible apply W_block
    | with_reducible apply W_scope
    | (with_reducible refine W_prune 262095 ?_; simp only [prune_cons, prune_nil, Nat.reducePow, Nat.reduceDiv, Nat.reduceMod, Nat.reduceBEq, cond_true, cond_false]; with_reducible apply W_region_l)
    | (with_reducible refine W_prune 262095 ?_; simp only [prune_cons, prune_nil, Nat.reducePow, Nat.reduceDiv, Nat.reduceMod, Nat.reduceBEq, cond_true, cond_false]; with_reducible refine W_region_draw (id := 8) 1 (.op 0 true (.op 1 true (.op 2 true (.op 3 true (.op 4 true (.op 5 true (.op 6 true (.op 7 true (.op 8 true (.op 9 true (.done))))))))))) (by kernel_rfl) ?_)
    | (with_reducible refine W_prune 262095 ?_; simp only [prune_cons, prune_nil, Nat.reducePow, Nat.reduceDiv, Nat.reduceMod, Nat.reduceBEq, cond_true, cond_false]; with_reducible refine W_region_draw (id := 21) 1 (.op 0 true (.op 1 true (.op 2 true (.op 3 true (.op 4 true (.op 5 true (.op 6 true (.op 7 true (.op 8 true (.op 9 true (.op 10 true (.done)))))))))))) (by kernel_rfl) ?_)
    | ((first | (with_reducible apply WL_op; intro nx hnx) | with_reducible refine Ev_out ?_ | (with_reducible apply popsD_op; intro nx hnx) | (with_reducible refine popsD_alt ?_ ?_; intro nx hnx) | (with_reducible refine pfresh_k hnm fun nm hnm => ?_; (try simp only [List.forall_mem_cons, List.not_mem_nil, false_implies, implies_true, and_true, true_and, ne_eq] at hnm))); try (simp (maxSteps := 2000000) (disch := omega) only [↓popG_eq, ↓pop.eq_1, ↓List.getElem?_map, ↓List.getElem?_cons_zero, ↓List.getElem?_cons_succ, pbuiltin, opnd, constPV, PState.put, fr_set, fr_getD_nil, fr_same, fr_other, layFrom, List.set, pnck, pguard_tt, pguard_tf, pguard_ft, pguard_ff, seqK, blockK, scopeK, List.map_cons, List.map_nil, List.getD_cons_zero, List.getD_cons_succ, List.getD_nil, List.getElem?_nil, Option.join_some, Option.join_none, pbin, pun, ppick, plen, pldop, pload, pfaddr, piaddr, pindex, pfield, pslice, pbound, pconv, pelems, pextract, pmm, parr, pbuild, pfill, PV.mem?, PV.one, PV.cells, pageq, peqs, peq1, palloc, pbox, pbuildS, pmakes, pstore, pappend, pcopy, pbytes, pmark, psrc, vcells, Value.oneCell', look, upd, del, names, Option.map_some, Option.map_none, List.length_cons, List.length_nil, List.all_cons, List.all_nil, Bool.and_true, Bool.true_and, Bool.not_true, Bool.not_false, List.take_zero, List.drop_zero, List.nil_append, List.cons_append, List.append_nil, Nat.reduceAdd, Nat.reduceMul, Nat.reduceSub, Nat.reduceLeDiff, Nat.reduceEqDiff, Nat.zero_add, Nat.add_zero, Nat.mul_one, Nat.zero_mul, List.drop_succ_cons, List.take_succ_cons, List.drop_nil, List.take_nil, ↓reduceIte, ne_eq, true_and, and_true, not_false_eq_true, reduceCtorEq, forall_const, List.toList_toArray, times, List.replicate_succ, List.replicate_zero, List.flatten_cons, List.flatten_nil, Value.cells, Int.toNat_natCast, Int.toNat_zero, Int.toNat_one, bl_mk, bl_lit, wr64, toNat_add1, toNat_sub1, map_getD, Int.natCast_nonneg, List.length_map, Bool.not_not, List.not_mem_nil, Option.some.injEq, exists_and_left, exists_eq_left', Int.cast_ofNat_Int, Int.natCast_zero, eq_self, List.size_toArray, Nat.reduceLT, Int.reduceLT, Int.reduceLE, Int.reduceToNat, Int.reduceAdd, Int.reduceSub, Int.reduceNeg, decide_true, decide_false, List.length_take, List.length_append, List.length_drop, hnm, Tryd.tf0, Tryd.tf3, Tryd.tf4, Tryd.tf5, Tryd.tf9, Tryd.tf22, Tryd.tf24, Tryd.teq24, Tryd.tf27, Tryd.teq30, Tryd.teq31, Tryd.teq43, Tryd.tf44, Tryd.teq44, Tryd.tf48, Tryd.teq48, Tryd.teq54, Tryd.teq63, Tryd.call10, Tryd.call11, Tryd.call13, Tryd.call21, Tryd.call23, hA2, hC2, zA, zC, hp, hq, hp2, hq2, hpq]); repeat (refine And.intro (by omega) ?_))
    | ((first | with_reducible apply WL_nil | with_reducible apply W_label | with_reducible apply W_skip | with_reducible apply W_exit | with_reducible apply W_ret | with_reducible apply popsD_done); try simp only [seqK, blockK, scopeK, ↓reduceIte, Nat.reduceEqDiff])
    | with_reducible exact popsD_stop
    | (with_reducible apply pguard_intro <;> (intro hc; (try simp only [decide_eq_true_eq, decide_eq_false_iff_not, reduceCtorEq, false_implies, true_implies, and_true, true_and, Bool.not_eq_true, Bool.not_eq_false, forall_const, bne_iff_ne, bne_eq_false_iff_eq, beq_iff_eq, beq_eq_false_iff_ne, ne_eq, Decidable.not_not, Bool.not_eq_eq_eq_not, Bool.not_true, Bool.not_false, Bool.and_eq_true, Bool.or_eq_true, Int.natCast_inj, Bool.and_eq_false_iff, Bool.or_eq_false_iff] at hc); first | (exfalso; omega) | (exfalso; exact hc trivial) | refine Ev_in ?_))
    | (with_reducible apply W_cond_k; intro _ _ ea eb; (simp only [condK, not_true_eq_false, not_false_eq_true, opnd, constPV, List.getD_cons_zero, List.getD_cons_succ, fr_getD_cons, fr_getD_nil, Nat.reduceEqDiff, Nat.reduceLT, ↓reduceIte, decide_eq_true_eq, decide_eq_false_iff_not, reduceCtorEq, false_implies, true_implies, and_true, true_and, Bool.not_eq_true, Bool.not_eq_false, forall_const, bne_iff_ne, bne_eq_false_iff_eq, beq_iff_eq, beq_eq_false_iff_ne, ne_eq, Decidable.not_not, Bool.not_eq_eq_eq_not, Bool.not_true, Bool.not_false, Bool.and_eq_true, Bool.or_eq_true, Int.natCast_inj, Bool.and_eq_false_iff, Bool.or_eq_false_iff]); subst ea eb; first | (refine ⟨fun hc => ?_, fun hc => ?_⟩ <;> first | (exfalso; omega) | (exfalso; exact hc trivial) | skip) | skip)
    | (with_reducible apply hnx; clear hnx nx)
    | (with_reducible refine And.intro (by omega) ?_)
    | (with_reducible refine And.intro ?_ ?_)
    | (clear hnx nx; with_reducible apply hnx; clear hnx nx)
    | (clear hnx nx; clear hnx nx; with_reducible apply hnx; clear hnx nx)
    | (clear hnx nx; clear hnx nx; clear hnx nx; with_reducible apply hnx; clear hnx nx))
              all_goals first
                | exact rfl
                | (exfalso
                   omega)
                | (refine hlp _ (16 - (j + 1)) _ (by omega) ?_ ⟨j + 1, false, by omega, rfl, hst.symm, rfl⟩
                   refine Wk_fr (by simp only [List.forall_mem_cons, List.not_mem_nil, false_implies, implies_true, and_true, true_and, and_self, fr_getD_cons, fr_getD_nil, Nat.reduceEqDiff, Nat.reduceLT, ↓reduceIte, Int.natCast_add, Int.cast_ofNat_Int, Int.natCast_zero]) ?_
                   exact Sub_refl hnd)
            · rw [Bool.true_and] at hst
              repeat' (first
    | (with_reducible apply W_seq_k; intro nx hnx)
    | with_reducible apply W_block
    | with_reducible apply W_scope
    | (with_reducible refine W_prune 262095 ?_; simp only [prune_cons, prune_nil, Nat.reducePow, Nat.reduceDiv, Nat.reduceMod, Nat.reduceBEq, cond_true, cond_false]; with_reducible apply W_region_l)
    | (with_reducible refine W_prune 262095 ?_; simp only [prune_cons, prune_nil, Nat.reducePow, Nat.reduceDiv, Nat.reduceMod, Nat.reduceBEq, cond_true, cond_false]; with_reducible refine W_region_draw (id := 8) 1 (.op 0 true (.op 1 true (.op 2 true (.op 3 true (.op 4 true (.op 5 true (.op 6 true (.op 7 true (.op 8 true (.op 9 true (.done))))))))))) (by kernel_rfl) ?_)
    | (with_reducible refine W_prune 262095 ?_; simp only [prune_cons, prune_nil, Nat.reducePow, Nat.reduceDiv, Nat.reduceMod, Nat.reduceBEq, cond_true, cond_false]; with_reducible refine W_region_draw (id := 21) 1 (.op 0 true (.op 1 true (.op 2 true (.op 3 true (.op 4 true (.op 5 true (.op 6 true (.op 7 true (.op 8 true (.op 9 true (.op 10 true (.done)))))))))))) (by kernel_rfl) ?_)
    | ((first | (with_reducible apply WL_op; intro nx hnx) | with_reducible refine Ev_out ?_ | (with_reducible apply popsD_op; intro nx hnx) | (with_reducible refine popsD_alt ?_ ?_; intro nx hnx) | (with_reducible refine pfresh_k hnm fun nm hnm => ?_; (try simp only [List.forall_mem_cons, List.not_mem_nil, false_implies, implies_true, and_true, true_and, ne_eq] at hnm))); try (simp (maxSteps := 2000000) (disch := omega) only [↓popG_eq, ↓pop.eq_1, ↓List.getElem?_map, ↓List.getElem?_cons_zero, ↓List.getElem?_cons_succ, pbuiltin, opnd, constPV, PState.put, fr_set, fr_getD_nil, fr_same, fr_other, layFrom, List.set, pnck, pguard_tt, pguard_tf, pguard_ft, pguard_ff, seqK, blockK, scopeK, List.map_cons, List.map_nil, List.getD_cons_zero, List.getD_cons_succ, List.getD_nil, List.getElem?_nil, Option.join_some, Option.join_none, pbin, pun, ppick, plen, pldop, pload, pfaddr, piaddr, pindex, pfield, pslice, pbound, pconv, pelems, pextract, pmm, parr, pbuild, pfill, PV.mem?, PV.one, PV.cells, pageq, peqs, peq1, palloc, pbox, pbuildS, pmakes, pstore, pappend, pcopy, pbytes, pmark, psrc, vcells, Value.oneCell', look, upd, del, names, Option.map_some, Option.map_none, List.length_cons, List.length_nil, List.all_cons, List.all_nil, Bool.and_true, Bool.true_and, Bool.not_true, Bool.not_false, List.take_zero, List.drop_zero, List.nil_append, List.cons_append, List.append_nil, Nat.reduceAdd, Nat.reduceMul, Nat.reduceSub, Nat.reduceLeDiff, Nat.reduceEqDiff, Nat.zero_add, Nat.add_zero, Nat.mul_one, Nat.zero_mul, List.drop_succ_cons, List.take_succ_cons, List.drop_nil, List.take_nil, ↓reduceIte, ne_eq, true_and, and_true, not_false_eq_true, reduceCtorEq, forall_const, List.toList_toArray, times, List.replicate_succ, List.replicate_zero, List.flatten_cons, List.flatten_nil, Value.cells, Int.toNat_natCast, Int.toNat_zero, Int.toNat_one, bl_mk, bl_lit, wr64, toNat_add1, toNat_sub1, map_getD, Int.natCast_nonneg, List.length_map, Bool.not_not, List.not_mem_nil, Option.some.injEq, exists_and_left, exists_eq_left', Int.cast_ofNat_Int, Int.natCast_zero, eq_self, List.size_toArray, Nat.reduceLT, Int.reduceLT, Int.reduceLE, Int.reduceToNat, Int.reduceAdd, Int.reduceSub, Int.reduceNeg, decide_true, decide_false, List.length_take, List.length_append, List.length_drop, hnm, Tryd.tf0, Tryd.tf3, Tryd.tf4, Tryd.tf5, Tryd.tf9, Tryd.tf22, Tryd.tf24, Tryd.teq24, Tryd.tf27, Tryd.teq30, Tryd.teq31, Tryd.teq43, Tryd.tf44, Tryd.teq44, Tryd.tf48, Tryd.teq48, Tryd.teq54, Tryd.teq63, Tryd.call10, Tryd.call11, Tryd.call13, Tryd.call21, Tryd.call23, hA2, hC2, zA, zC, hp, hq, hp2, hq2, hpq]); repeat (refine And.intro (by omega) ?_))
    | ((first | with_reducible apply WL_nil | with_reducible apply W_label | with_reducible apply W_skip | with_reducible apply W_exit | with_reducible apply W_ret | with_reducible apply popsD_done); try simp only [seqK, blockK, scopeK, ↓reduceIte, Nat.reduceEqDiff])
    | with_reducible exact popsD_stop
    | (with_reducible apply pguard_intro <;> (intro hc; (try simp only [decide_eq_true_eq, decide_eq_false_iff_not, reduceCtorEq, false_implies, true_implies, and_true, true_and, Bool.not_eq_true, Bool.not_eq_false, forall_const, bne_iff_ne, bne_eq_false_iff_eq, beq_iff_eq, beq_eq_false_iff_ne, ne_eq, Decidable.not_not, Bool.not_eq_eq_eq_not, Bool.not_true, Bool.not_false, Bool.and_eq_true, Bool.or_eq_true, Int.natCast_inj, Bool.and_eq_false_iff, Bool.or_eq_false_iff] at hc); first | (exfalso; omega) | (exfalso; exact hc trivial) | refine Ev_in ?_))
    | (with_reducible apply W_cond_k; intro _ _ ea eb; (simp only [condK, not_true_eq_false, not_false_eq_true, opnd, constPV, List.getD_cons_zero, List.getD_cons_succ, fr_getD_cons, fr_getD_nil, Nat.reduceEqDiff, Nat.reduceLT, ↓reduceIte, decide_eq_true_eq, decide_eq_false_iff_not, reduceCtorEq, false_implies, true_implies, and_true, true_and, Bool.not_eq_true, Bool.not_eq_false, forall_const, bne_iff_ne, bne_eq_false_iff_eq, beq_iff_eq, beq_eq_false_iff_ne, ne_eq, Decidable.not_not, Bool.not_eq_eq_eq_not, Bool.not_true, Bool.not_false, Bool.and_eq_true, Bool.or_eq_true, Int.natCast_inj, Bool.and_eq_false_iff, Bool.or_eq_false_iff]); subst ea eb; first | (refine ⟨fun hc => ?_, fun hc => ?_⟩ <;> first | (exfalso; omega) | (exfalso; exact hc trivial) | skip) | skip)
    | (with_reducible apply hnx; clear hnx nx)
    | (with_reducible refine And.intro (by omega) ?_)
    | (with_reducible refine And.intro ?_ ?_)
    | (clear hnx nx; with_reducible apply hnx; clear hnx nx)
    | (clear hnx nx; clear hnx nx; with_reducible apply hnx; clear hnx nx)
    | (clear hnx nx; clear hnx nx; clear hnx nx; with_reducible apply hnx; clear hnx nx))
              all_goals first
                | exact rfl
                | (exfalso
                   omega)
                | (refine hlp _ (16 - (j + 1)) _ (by omega) ?_ ⟨j + 1, decide (p = q), by omega, rfl, hst.symm, rfl⟩
                   refine Wk_fr (by simp only [List.forall_mem_cons, List.not_mem_nil, false_implies, implies_true, and_true, true_and, and_self, fr_getD_cons, fr_getD_nil, Nat.reduceEqDiff, Nat.reduceLT, ↓reduceIte, Int.natCast_add, Int.cast_ofNat_Int, Int.natCast_zero]) ?_
                   exact Sub_refl hnd)
          · have hj3 : j = 16 := by omega
            subst hj3
            rw [← hA6, ← hC6] at hb
            have u1 := isByte_pb a
            have u2 := isByte_pb c
            have u3 := unb_pb a
            have u4 := unb_pb c
            have hq := q16 A6 C6 sA sB
            rw [← hb] at hq
            have hne2 : (a != c) = true := by simpa using hne
            repeat' (first
    | (with_reducible apply W_seq_k; intro nx hnx)
    | with_reducible apply W_block
    | with_reducible apply W_scope
    | (with_reducible refine W_prune 262095 ?_; simp only [prune_cons, prune_nil, Nat.reducePow, Nat.reduceDiv, Nat.reduceMod, Nat.reduceBEq, cond_true, cond_false]; with_reducible apply W_region_l)
    | (with_reducible refine W_prune 262095 ?_; simp only [prune_cons, prune_nil, Nat.reducePow, Nat.reduceDiv, Nat.reduceMod, Nat.reduceBEq, cond_true, cond_false]; with_reducible refine W_region_draw (id := 8) 1 (.op 0 true (.op 1 true (.op 2 true (.op 3 true (.op 4 true (.op 5 true (.op 6 true (.op 7 true (.op 8 true (.op 9 true (.done))))))))))) (by kernel_rfl) ?_)
    | (with_reducible refine W_prune 262095 ?_; simp only [prune_cons, prune_nil, Nat.reducePow, Nat.reduceDiv, Nat.reduceMod, Nat.reduceBEq, cond_true, cond_false]; with_reducible refine W_region_draw (id := 21) 1 (.op 0 true (.op 1 true (.op 2 true (.op 3 true (.op 4 true (.op 5 true (.op 6 true (.op 7 true (.op 8 true (.op 9 true (.op 10 true (.done)))))))))))) (by kernel_rfl) ?_)
    | ((first | (with_reducible apply WL_op; intro nx hnx) | with_reducible refine Ev_out ?_ | (with_reducible apply popsD_op; intro nx hnx) | (with_reducible refine popsD_alt ?_ ?_; intro nx hnx) | (with_reducible refine pfresh_k hnm fun nm hnm => ?_; (try simp only [List.forall_mem_cons, List.not_mem_nil, false_implies, implies_true, and_true, true_and, ne_eq] at hnm))); try (simp (maxSteps := 2000000) (disch := omega) only [↓popG_eq, ↓pop.eq_1, ↓List.getElem?_map, ↓List.getElem?_cons_zero, ↓List.getElem?_cons_succ, pbuiltin, opnd, constPV, PState.put, fr_set, fr_getD_nil, fr_same, fr_other, layFrom, List.set, pnck, pguard_tt, pguard_tf, pguard_ft, pguard_ff, seqK, blockK, scopeK, List.map_cons, List.map_nil, List.getD_cons_zero, List.getD_cons_succ, List.getD_nil, List.getElem?_nil, Option.join_some, Option.join_none, pbin, pun, ppick, plen, pldop, pload, pfaddr, piaddr, pindex, pfield, pslice, pbound, pconv, pelems, pextract, pmm, parr, pbuild, pfill, PV.mem?, PV.one, PV.cells, pageq, peqs, peq1, palloc, pbox, pbuildS, pmakes, pstore, pappend, pcopy, pbytes, pmark, psrc, vcells, Value.oneCell', look, upd, del, names, Option.map_some, Option.map_none, List.length_cons, List.length_nil, List.all_cons, List.all_nil, Bool.and_true, Bool.true_and, Bool.not_true, Bool.not_false, List.take_zero, List.drop_zero, List.nil_append, List.cons_append, List.append_nil, Nat.reduceAdd, Nat.reduceMul, Nat.reduceSub, Nat.reduceLeDiff, Nat.reduceEqDiff, Nat.zero_add, Nat.add_zero, Nat.mul_one, Nat.zero_mul, List.drop_succ_cons, List.take_succ_cons, List.drop_nil, List.take_nil, ↓reduceIte, ne_eq, true_and, and_true, not_false_eq_true, reduceCtorEq, forall_const, List.toList_toArray, times, List.replicate_succ, List.replicate_zero, List.flatten_cons, List.flatten_nil, Value.cells, Int.toNat_natCast, Int.toNat_zero, Int.toNat_one, bl_mk, bl_lit, wr64, toNat_add1, toNat_sub1, map_getD, Int.natCast_nonneg, List.length_map, Bool.not_not, List.not_mem_nil, Option.some.injEq, exists_and_left, exists_eq_left', Int.cast_ofNat_Int, Int.natCast_zero, eq_self, List.size_toArray, Nat.reduceLT, Int.reduceLT, Int.reduceLE, Int.reduceToNat, Int.reduceAdd, Int.reduceSub, Int.reduceNeg, decide_true, decide_false, List.length_take, List.length_append, List.length_drop, hnm, Tryd.tf0, Tryd.tf3, Tryd.tf4, Tryd.tf5, Tryd.tf9, Tryd.tf22, Tryd.tf24, Tryd.teq24, Tryd.tf27, Tryd.teq30, Tryd.teq31, Tryd.teq43, Tryd.tf44, Tryd.teq44, Tryd.tf48, Tryd.teq48, Tryd.teq54, Tryd.teq63, Tryd.call10, Tryd.call11, Tryd.call13, Tryd.call21, Tryd.call23, u1, u2, u3, u4, sA, sB, k3, k4, hq, hne2, beq_self_eq_true]); repeat (refine And.intro (by omega) ?_))
    | ((first | with_reducible apply WL_nil | with_reducible apply W_label | with_reducible apply W_skip | with_reducible apply W_exit | with_reducible apply W_ret | with_reducible apply popsD_done); try simp only [seqK, blockK, scopeK, ↓reduceIte, Nat.reduceEqDiff])
    | with_reducible exact popsD_stop
    | (with_reducible apply pguard_intro <;> (intro hc; (try simp only [decide_eq_true_eq, decide_eq_false_iff_not, reduceCtorEq, false_implies, true_implies, and_true, true_and, Bool.not_eq_true, Bool.not_eq_false, forall_const, bne_iff_ne, bne_eq_false_iff_eq, beq_iff_eq, beq_eq_false_iff_ne, ne_eq, Decidable.not_not, Bool.not_eq_eq_eq_not, Bool.not_true, Bool.not_false, Bool.and_eq_true, Bool.or_eq_true, Int.natCast_inj, Bool.and_eq_false_iff, Bool.or_eq_false_iff] at hc); first | (exfalso; omega) | (exfalso; exact hc trivial) | refine Ev_in ?_))
    | (with_reducible apply W_cond_k; intro _ _ ea eb; (simp only [condK, not_true_eq_false, not_false_eq_true, opnd, constPV, List.getD_cons_zero, List.getD_cons_succ, fr_getD_cons, fr_getD_nil, Nat.reduceEqDiff, Nat.reduceLT, ↓reduceIte, decide_eq_true_eq, decide_eq_false_iff_not, reduceCtorEq, false_implies, true_implies, and_true, true_and, Bool.not_eq_true, Bool.not_eq_false, forall_const, bne_iff_ne, bne_eq_false_iff_eq, beq_iff_eq, beq_eq_false_iff_ne, ne_eq, Decidable.not_not, Bool.not_eq_eq_eq_not, Bool.not_true, Bool.not_false, Bool.and_eq_true, Bool.or_eq_true, Int.natCast_inj, Bool.and_eq_false_iff, Bool.or_eq_false_iff]); subst ea eb; first | (refine ⟨fun hc => ?_, fun hc => ?_⟩ <;> first | (exfalso; omega) | (exfalso; exact hc trivial) | skip) | skip)
    | (with_reducible apply hnx; clear hnx nx)
    | (with_reducible refine And.intro (by omega) ?_)
    | (with_reducible refine And.intro ?_ ?_)
    | (clear hnx nx; with_reducible apply hnx; clear hnx nx)
    | (clear hnx nx; clear hnx nx; with_reducible apply hnx; clear hnx nx)
    | (clear hnx nx; clear hnx nx; clear hnx nx; with_reducible apply hnx; clear hnx nx))
            all_goals first
              | exact rfl
              | (exfalso
                 omega)
              | (refine hfin _ _ (Fin_ret1 rfl (Sub_nil _) ?_); simp only [List.getD_cons_zero, List.getD_cons_succ, fr_getD_cons, fr_getD_nil, Nat.reduceEqDiff, Nat.reduceLT, ↓reduceIte]; first | trivial | exact ⟨rfl, by trivial⟩ | (simp; done) | (simp; omega))
      · obtain ⟨⟨hst, hlen⟩, htk⟩ := of_decide_eq_true hb.symm
        by_cases hix : i < x.length
        · obtain ⟨p, hp⟩ : ∃ p, x[i]? = some p := ⟨_, List.getElem?_eq_getElem (by omega)⟩
          obtain ⟨q, hq⟩ : ∃ q, y[i]? = some q := ⟨_, List.getElem?_eq_getElem (by omega)⟩
          have hp2 : x[i]'(by omega) = p := by
            rw [List.getElem?_eq_getElem (by omega)] at hp
            exact Option.some.inj hp
          have hq2 : y[i]'(by omega) = q := by
            rw [List.getElem?_eq_getElem (by omega)] at hq
            exact Option.some.inj hq
          have hdec := take_dec hp hq (by rw [List.length_take, List.length_take]; omega)
          have hnew : (p == q) = decide ((s = t ∧ x.length = y.length) ∧ x.take (i + 1) = y.take (i + 1)) := by
            rw [decide_eq_true htk, Bool.true_and] at hdec
            rw [Bool.eq_iff_iff]
            have := of_decide_eq_true (p := True) rfl
            simp only [beq_iff_eq, decide_eq_true_eq]
            exact ⟨fun h => ⟨⟨hst, hlen⟩, of_decide_eq_true (by rw [hdec]; exact decide_eq_true h)⟩, fun h => of_decide_eq_true (by rw [← hdec]; exact decide_eq_true h.2)⟩
          repeat' (first
    | (with_reducible apply W_seq_k; intro nx hnx)
    | with_reducible apply W_block
    | with_reducible apply W_scope
    | (with_reducible refine W_prune 262095 ?_; simp only [prune_cons, prune_nil, Nat.reducePow, Nat.reduceDiv, Nat.reduceMod, Nat.reduceBEq, cond_true, cond_false]; with_reducible apply W_region_l)
    | (with_reducible refine W_prune 262095 ?_; simp only [prune_cons, prune_nil, Nat.reducePow, Nat.reduceDiv, Nat.reduceMod, Nat.reduceBEq, cond_true, cond_false]; with_reducible refine W_region_draw (id := 8) 1 (.op 0 true (.op 1 true (.op 2 true (.op 3 true (.op 4 true (.op 5 true (.op 6 true (.op 7 true (.op 8 true (.op 9 true (.done))))))))))) (by kernel_rfl) ?_)
    | (with_reducible refine W_prune 262095 ?_; simp only [prune_cons, prune_nil, Nat.reducePow, Nat.reduceDiv, Nat.reduceMod, Nat.reduceBEq, cond_true, cond_false]; with_reducible refine W_region_draw (id := 21) 1 (.op 0 true (.op 1 true (.op 2 true (.op 3 true (.op 4 true (.op 5 true (.op 6 true (.op 7 true (.op 8 true (.op 9 true (.op 10 true (.done)))))))))))) (by kernel_rfl) ?_)
    | ((first | (with_reducible apply WL_op; intro nx hnx) | with_reducible refine Ev_out ?_ | (with_reducible apply popsD_op; intro nx hnx) | (with_reducible refine popsD_alt ?_ ?_; intro nx hnx) | (with_reducible refine pfresh_k hnm fun nm hnm => ?_; (try simp only [List.forall_mem_cons, List.not_mem_nil, false_implies, implies_true, and_true, true_and, ne_eq] at hnm))); try (simp (maxSteps := 2000000) (disch := omega) only [↓popG_eq, ↓pop.eq_1, ↓List.getElem?_map, ↓List.getElem?_cons_zero, ↓List.getElem?_cons_succ, pbuiltin, opnd, constPV, PState.put, fr_set, fr_getD_nil, fr_same, fr_other, layFrom, List.set, pnck, pguard_tt, pguard_tf, pguard_ft, pguard_ff, seqK, blockK, scopeK, List.map_cons, List.map_nil, List.getD_cons_zero, List.getD_cons_succ, List.getD_nil, List.getElem?_nil, Option.join_some, Option.join_none, pbin, pun, ppick, plen, pldop, pload, pfaddr, piaddr, pindex, pfield, pslice, pbound, pconv, pelems, pextract, pmm, parr, pbuild, pfill, PV.mem?, PV.one, PV.cells, pageq, peqs, peq1, palloc, pbox, pbuildS, pmakes, pstore, pappend, pcopy, pbytes, pmark, psrc, vcells, Value.oneCell', look, upd, del, names, Option.map_some, Option.map_none, List.length_cons, List.length_nil, List.all_cons, List.all_nil, Bool.and_true, Bool.true_and, Bool.not_true, Bool.not_false, List.take_zero, List.drop_zero, List.nil_append, List.cons_append, List.append_nil, Nat.reduceAdd, Nat.reduceMul, Nat.reduceSub, Nat.reduceLeDiff, Nat.reduceEqDiff, Nat.zero_add, Nat.add_zero, Nat.mul_one, Nat.zero_mul, List.drop_succ_cons, List.take_succ_cons, List.drop_nil, List.take_nil, ↓reduceIte, ne_eq, true_and, and_true, not_false_eq_true, reduceCtorEq, forall_const, List.toList_toArray, times, List.replicate_succ, List.replicate_zero, List.flatten_cons, List.flatten_nil, Value.cells, Int.toNat_natCast, Int.toNat_zero, Int.toNat_one, bl_mk, bl_lit, wr64, toNat_add1, toNat_sub1, map_getD, Int.natCast_nonneg, List.length_map, Bool.not_not, List.not_mem_nil, Option.some.injEq, exists_and_left, exists_eq_left', Int.cast_ofNat_Int, Int.natCast_zero, eq_self, List.size_toArray, Nat.reduceLT, Int.reduceLT, Int.reduceLE, Int.reduceToNat, Int.reduceAdd, Int.reduceSub, Int.reduceNeg, decide_true, decide_false, List.length_take, List.length_append, List.length_drop, hnm, Tryd.tf0, Tryd.tf3, Tryd.tf4, Tryd.tf5, Tryd.tf9, Tryd.tf22, Tryd.tf24, Tryd.teq24, Tryd.tf27, Tryd.teq30, Tryd.teq31, Tryd.teq43, Tryd.tf44, Tryd.teq44, Tryd.tf48, Tryd.teq48, Tryd.teq54, Tryd.teq63, Tryd.call10, Tryd.call11, Tryd.call13, Tryd.call21, Tryd.call23, hp, hq, hp2, hq2]); repeat (refine And.intro (by omega) ?_))
    | ((first | with_reducible apply WL_nil | with_reducible apply W_label | with_reducible apply W_skip | with_reducible apply W_exit | with_reducible apply W_ret | with_reducible apply popsD_done); try simp only [seqK, blockK, scopeK, ↓reduceIte, Nat.reduceEqDiff])
    | with_reducible exact popsD_stop
    | (with_reducible apply pguard_intro <;> (intro hc; (try simp only [decide_eq_true_eq, decide_eq_false_iff_not, reduceCtorEq, false_implies, true_implies, and_true, true_and, Bool.not_eq_true, Bool.not_eq_false, forall_const, bne_iff_ne, bne_eq_false_iff_eq, beq_iff_eq, beq_eq_false_iff_ne, ne_eq, Decidable.not_not, Bool.not_eq_eq_eq_not, Bool.not_true, Bool.not_false, Bool.and_eq_true, Bool.or_eq_true, Int.natCast_inj, Bool.and_eq_false_iff, Bool.or_eq_false_iff] at hc); first | (exfalso; omega) | (exfalso; exact hc trivial) | refine Ev_in ?_))
    | (with_reducible apply W_cond_k; intro _ _ ea eb; (simp only [condK, not_true_eq_false, not_false_eq_true, opnd, constPV, List.getD_cons_zero, List.getD_cons_succ, fr_getD_cons, fr_getD_nil, Nat.reduceEqDiff, Nat.reduceLT, ↓reduceIte, decide_eq_true_eq, decide_eq_false_iff_not, reduceCtorEq, false_implies, true_implies, and_true, true_and, Bool.not_eq_true, Bool.not_eq_false, forall_const, bne_iff_ne, bne_eq_false_iff_eq, beq_iff_eq, beq_eq_false_iff_ne, ne_eq, Decidable.not_not, Bool.not_eq_eq_eq_not, Bool.not_true, Bool.not_false, Bool.and_eq_true, Bool.or_eq_true, Int.natCast_inj, Bool.and_eq_false_iff, Bool.or_eq_false_iff]); subst ea eb; first | (refine ⟨fun hc => ?_, fun hc => ?_⟩ <;> first | (exfalso; omega) | (exfalso; exact hc trivial) | skip) | skip)
    | (with_reducible apply hnx; clear hnx nx)
    | (with_reducible refine And.intro (by omega) ?_)
    | (with_reducible refine And.intro ?_ ?_)
    | (clear hnx nx; with_reducible apply hnx; clear hnx nx)
    | (clear hnx nx; clear hnx nx; with_reducible apply hnx; clear hnx nx)
    | (clear hnx nx; clear hnx nx; clear hnx nx; with_reducible apply hnx; clear hnx nx))
          all_goals first
            | exact rfl
            | (exfalso
               omega)
            | (refine hlp _ (x.length - (i + 1)) _ (by omega) ?_ ⟨i + 1, p == q, by omega, rfl, hnew, rfl⟩
               exact Wk_fr (by simp only [List.forall_mem_cons, List.not_mem_nil, false_implies, implies_true, and_true, true_and, and_self, fr_getD_cons, fr_getD_nil, Nat.reduceEqDiff, Nat.reduceLT, ↓reduceIte, Int.natCast_add, Int.cast_ofNat_Int, Int.natCast_zero]) ⟨by simp, by simp [names]⟩)
        · have hxy : x = y := by rwa [List.take_of_length_le (by omega), List.take_of_length_le (by omega)] at htk
          subst hst
          have iA := input_c G ((s.toNat : Nat) : Int) x hx2 (by omega)
          rw [← hxy]
          have w1 : IntKind.i64.wrap ((s.toNat : Nat) : Int) = ((s.toNat : Nat) : Int) := wr64 _ (by omega) (by omega)
          have u1 := isByte_pb (ofIn ((s.toNat : Nat) : Int) x)
          have u2 := unb_pb (ofIn ((s.toNat : Nat) : Int) x)
          repeat' (first
    | (with_reducible apply W_seq_k; intro nx hnx)
    | with_reducible apply W_block
    | with_reducible apply W_scope
    | (with_reducible refine W_prune 262095 ?_; simp only [prune_cons, prune_nil, Nat.reducePow, Nat.reduceDiv, Nat.reduceMod, Nat.reduceBEq, cond_true, cond_false]; with_reducible apply W_region_l)
    | (with_reducible refine W_prune 262095 ?_; simp only [prune_cons, prune_nil, Nat.reducePow, Nat.reduceDiv, Nat.reduceMod, Nat.reduceBEq, cond_true, cond_false]; with_reducible refine W_region_draw (id := 8) 1 (.op 0 true (.op 1 true (.op 2 true (.op 3 true (.op 4 true (.op 5 true (.op 6 true (.op 7 true (.op 8 true (.op 9 true (.done))))))))))) (by kernel_rfl) ?_)
    | (with_reducible refine W_prune 262095 ?_; simp only [prune_cons, prune_nil, Nat.reducePow, Nat.reduceDiv, Nat.reduceMod, Nat.reduceBEq, cond_true, cond_false]; with_reducible refine W_region_draw (id := 21) 1 (.op 0 true (.op 1 true (.op 2 true (.op 3 true (.op 4 true (.op 5 true (.op 6 true (.op 7 true (.op 8 true (.op 9 true (.op 10 true (.done)))))))))))) (by kernel_rfl) ?_)
    | ((first | (with_reducible apply WL_op; intro nx hnx) | with_reducible refine Ev_out ?_ | (with_reducible apply popsD_op; intro nx hnx) | (with_reducible refine popsD_alt ?_ ?_; intro nx hnx) | (with_reducible refine pfresh_k hnm fun nm hnm => ?_; (try simp only [List.forall_mem_cons, List.not_mem_nil, false_implies, implies_true, and_true, true_and, ne_eq] at hnm))); try (simp (maxSteps := 2000000) (disch := omega) only [↓popG_eq, ↓pop.eq_1, ↓List.getElem?_map, ↓List.getElem?_cons_zero, ↓List.getElem?_cons_succ, pbuiltin, opnd, constPV, PState.put, fr_set, fr_getD_nil, fr_same, fr_other, layFrom, List.set, pnck, pguard_tt, pguard_tf, pguard_ft, pguard_ff, seqK, blockK, scopeK, List.map_cons, List.map_nil, List.getD_cons_zero, List.getD_cons_succ, List.getD_nil, List.getElem?_nil, Option.join_some, Option.join_none, pbin, pun, ppick, plen, pldop, pload, pfaddr, piaddr, pindex, pfield, pslice, pbound, pconv, pelems, pextract, pmm, parr, pbuild, pfill, PV.mem?, PV.one, PV.cells, pageq, peqs, peq1, palloc, pbox, pbuildS, pmakes, pstore, pappend, pcopy, pbytes, pmark, psrc, vcells, Value.oneCell', look, upd, del, names, Option.map_some, Option.map_none, List.length_cons, List.length_nil, List.all_cons, List.all_nil, Bool.and_true, Bool.true_and, Bool.not_true, Bool.not_false, List.take_zero, List.drop_zero, List.nil_append, List.cons_append, List.append_nil, Nat.reduceAdd, Nat.reduceMul, Nat.reduceSub, Nat.reduceLeDiff, Nat.reduceEqDiff, Nat.zero_add, Nat.add_zero, Nat.mul_one, Nat.zero_mul, List.drop_succ_cons, List.take_succ_cons, List.drop_nil, List.take_nil, ↓reduceIte, ne_eq, true_and, and_true, not_false_eq_true, reduceCtorEq, forall_const, List.toList_toArray, times, List.replicate_succ, List.replicate_zero, List.flatten_cons, List.flatten_nil, Value.cells, Int.toNat_natCast, Int.toNat_zero, Int.toNat_one, bl_mk, bl_lit, wr64, toNat_add1, toNat_sub1, map_getD, Int.natCast_nonneg, List.length_map, Bool.not_not, List.not_mem_nil, Option.some.injEq, exists_and_left, exists_eq_left', Int.cast_ofNat_Int, Int.natCast_zero, eq_self, List.size_toArray, Nat.reduceLT, Int.reduceLT, Int.reduceLE, Int.reduceToNat, Int.reduceAdd, Int.reduceSub, Int.reduceNeg, decide_true, decide_false, List.length_take, List.length_append, List.length_drop, hnm, Tryd.tf0, Tryd.tf3, Tryd.tf4, Tryd.tf5, Tryd.tf9, Tryd.tf22, Tryd.tf24, Tryd.teq24, Tryd.tf27, Tryd.teq30, Tryd.teq31, Tryd.teq43, Tryd.tf44, Tryd.teq44, Tryd.tf48, Tryd.teq48, Tryd.teq54, Tryd.teq63, Tryd.call10, Tryd.call11, Tryd.call13, Tryd.call21, Tryd.call23, w1, u1, u2, beq_self_eq_true]); repeat (refine And.intro (by omega) ?_))
    | ((first | with_reducible apply WL_nil | with_reducible apply W_label | with_reducible apply W_skip | with_reducible apply W_exit | with_reducible apply W_ret | with_reducible apply popsD_done); try simp only [seqK, blockK, scopeK, ↓reduceIte, Nat.reduceEqDiff])
    | with_reducible exact popsD_stop
    | (with_reducible apply pguard_intro <;> (intro hc; (try simp only [decide_eq_true_eq, decide_eq_false_iff_not, reduceCtorEq, false_implies, true_implies, and_true, true_and, Bool.not_eq_true, Bool.not_eq_false, forall_const, bne_iff_ne, bne_eq_false_iff_eq, beq_iff_eq, beq_eq_false_iff_ne, ne_eq, Decidable.not_not, Bool.not_eq_eq_eq_not, Bool.not_true, Bool.not_false, Bool.and_eq_true, Bool.or_eq_true, Int.natCast_inj, Bool.and_eq_false_iff, Bool.or_eq_false_iff] at hc); first | (exfalso; omega) | (exfalso; exact hc trivial) | refine Ev_in ?_))
    | (with_reducible apply W_cond_k; intro _ _ ea eb; (simp only [condK, not_true_eq_false, not_false_eq_true, opnd, constPV, List.getD_cons_zero, List.getD_cons_succ, fr_getD_cons, fr_getD_nil, Nat.reduceEqDiff, Nat.reduceLT, ↓reduceIte, decide_eq_true_eq, decide_eq_false_iff_not, reduceCtorEq, false_implies, true_implies, and_true, true_and, Bool.not_eq_true, Bool.not_eq_false, forall_const, bne_iff_ne, bne_eq_false_iff_eq, beq_iff_eq, beq_eq_false_iff_ne, ne_eq, Decidable.not_not, Bool.not_eq_eq_eq_not, Bool.not_true, Bool.not_false, Bool.and_eq_true, Bool.or_eq_true, Int.natCast_inj, Bool.and_eq_false_iff, Bool.or_eq_false_iff]); subst ea eb; first | (refine ⟨fun hc => ?_, fun hc => ?_⟩ <;> first | (exfalso; omega) | (exfalso; exact hc trivial) | skip) | skip)
    | (with_reducible apply hnx; clear hnx nx)
    | (with_reducible refine And.intro (by omega) ?_)
    | (with_reducible refine And.intro ?_ ?_)
    | (with_reducible refine pcall_k (iA) ?_; rintro _ _ ⟨rfl, rfl⟩ -; refine Ev_in ?_)
    | (clear hnx nx; with_reducible apply hnx; clear hnx nx)
    | (clear hnx nx; clear hnx nx; with_reducible apply hnx; clear hnx nx)
    | (clear hnx nx; clear hnx nx; clear hnx nx; with_reducible apply hnx; clear hnx nx))
          all_goals first
            | exact rfl
            | (exfalso
               omega)
            | (refine hfin _ _ (Fin_ret1 rfl (Sub_nil _) ?_); simp only [List.getD_cons_zero, List.getD_cons_succ, fr_getD_cons, fr_getD_nil, Nat.reduceEqDiff, Nat.reduceLT, ↓reduceIte]; first | trivial | exact ⟨rfl, by trivial⟩ | (simp; done) | (simp; omega))
  · have hcase : decide (x.length ≤ 12 ∧ ∀ p ∈ x, p.length ≤ 400) = false ∨ decide (y.length ≤ 12 ∧ ∀ p ∈ y, p.length ≤ 400) = false := by
      by_cases h1 : x.length ≤ 12 ∧ ∀ p ∈ x, p.length ≤ 400
      · exact .inr (decide_eq_false fun h2 => hf ⟨h1, h2⟩)
      · exact .inl (decide_eq_false h1)
    generalize decide (x.length ≤ 12 ∧ ∀ p ∈ x, p.length ≤ 400) = d at *
    generalize decide (y.length ≤ 12 ∧ ∀ p ∈ y, p.length ≤ 400) = e at *
    cases d
    · (refine PCalls_f Tryd.func8 rfl Tryd.ntmps8 Tryd.results8 (by simp) fun fin hfin => ?_; have hnm : True := trivial; simp (maxSteps := 2000000) (disch := omega) only [↓popG_eq, ↓pop.eq_1, ↓List.getElem?_map, ↓List.getElem?_cons_zero, ↓List.getElem?_cons_succ, pbuiltin, opnd, constPV, PState.put, fr_set, fr_getD_nil, fr_same, fr_other, layFrom, List.set, pnck, pguard_tt, pguard_tf, pguard_ft, pguard_ff, seqK, blockK, scopeK, List.map_cons, List.map_nil, List.getD_cons_zero, List.getD_cons_succ, List.getD_nil, List.getElem?_nil, Option.join_some, Option.join_none, pbin, pun, ppick, plen, pldop, pload, pfaddr, piaddr, pindex, pfield, pslice, pbound, pconv, pelems, pextract, pmm, parr, pbuild, pfill, PV.mem?, PV.one, PV.cells, pageq, peqs, peq1, palloc, pbox, pbuildS, pmakes, pstore, pappend, pcopy, pbytes, pmark, psrc, vcells, Value.oneCell', look, upd, del, names, Option.map_some, Option.map_none, List.length_cons, List.length_nil, List.all_cons, List.all_nil, Bool.and_true, Bool.true_and, Bool.not_true, Bool.not_false, List.take_zero, List.drop_zero, List.nil_append, List.cons_append, List.append_nil, Nat.reduceAdd, Nat.reduceMul, Nat.reduceSub, Nat.reduceLeDiff, Nat.reduceEqDiff, Nat.zero_add, Nat.add_zero, Nat.mul_one, Nat.zero_mul, List.drop_succ_cons, List.take_succ_cons, List.drop_nil, List.take_nil, ↓reduceIte, ne_eq, true_and, and_true, not_false_eq_true, reduceCtorEq, forall_const, List.toList_toArray, times, List.replicate_succ, List.replicate_zero, List.flatten_cons, List.flatten_nil, Value.cells, Int.toNat_natCast, Int.toNat_zero, Int.toNat_one, bl_mk, bl_lit, wr64, toNat_add1, toNat_sub1, map_getD, Int.natCast_nonneg, List.length_map, Bool.not_not, List.not_mem_nil, Option.some.injEq, exists_and_left, exists_eq_left', Int.cast_ofNat_Int, Int.natCast_zero, eq_self, List.size_toArray, Nat.reduceLT, Int.reduceLT, Int.reduceLE, Int.reduceToNat, Int.reduceAdd, Int.reduceSub, Int.reduceNeg, decide_true, decide_false, List.length_take, List.length_append, List.length_drop, hnm, Tryd.tf0, Tryd.tf3, Tryd.tf4, Tryd.tf5, Tryd.tf9, Tryd.tf22, Tryd.tf24, Tryd.teq24, Tryd.tf27, Tryd.teq30, Tryd.teq31, Tryd.teq43, Tryd.tf44, Tryd.teq44, Tryd.tf48, Tryd.teq48, Tryd.teq54, Tryd.teq63, Tryd.call10, Tryd.call11, Tryd.call13, Tryd.call21, Tryd.call23])
      repeat' (first
    | (with_reducible apply W_seq_k; intro nx hnx)
    | with_reducible apply W_block
    | with_reducible apply W_scope
    | (with_reducible refine W_prune 262095 ?_; simp only [prune_cons, prune_nil, Nat.reducePow, Nat.reduceDiv, Nat.reduceMod, Nat.reduceBEq, cond_true, cond_false]; with_reducible apply W_region_l)
    | (with_reducible refine W_prune 262095 ?_; simp only [prune_cons, prune_nil, Nat.reducePow, Nat.reduceDiv, Nat.reduceMod, Nat.reduceBEq, cond_true, cond_false]; with_reducible refine W_region_draw (id := 8) 1 (.op 0 true (.op 1 true (.op 2 true (.op 3 true (.op 4 true (.op 5 true (.op 6 true (.op 7 true (.op 8 true (.op 9 true (.done))))))))))) (by kernel_rfl) ?_)
    | (with_reducible refine W_prune 262095 ?_; simp only [prune_cons, prune_nil, Nat.reducePow, Nat.reduceDiv, Nat.reduceMod, Nat.reduceBEq, cond_true, cond_false]; with_reducible refine W_region_draw (id := 21) 1 (.op 0 true (.op 1 true (.op 2 true (.op 3 true (.op 4 true (.op 5 true (.op 6 true (.op 7 true (.op 8 true (.op 9 true (.op 10 true (.done)))))))))))) (by kernel_rfl) ?_)
    | ((first | (with_reducible apply WL_op; intro nx hnx) | with_reducible refine Ev_out ?_ | (with_reducible apply popsD_op; intro nx hnx) | (with_reducible refine popsD_alt ?_ ?_; intro nx hnx) | (with_reducible refine pfresh_k hnm fun nm hnm => ?_; (try simp only [List.forall_mem_cons, List.not_mem_nil, false_implies, implies_true, and_true, true_and, ne_eq] at hnm))); try (simp (maxSteps := 2000000) (disch := omega) only [↓popG_eq, ↓pop.eq_1, ↓List.getElem?_map, ↓List.getElem?_cons_zero, ↓List.getElem?_cons_succ, pbuiltin, opnd, constPV, PState.put, fr_set, fr_getD_nil, fr_same, fr_other, layFrom, List.set, pnck, pguard_tt, pguard_tf, pguard_ft, pguard_ff, seqK, blockK, scopeK, List.map_cons, List.map_nil, List.getD_cons_zero, List.getD_cons_succ, List.getD_nil, List.getElem?_nil, Option.join_some, Option.join_none, pbin, pun, ppick, plen, pldop, pload, pfaddr, piaddr, pindex, pfield, pslice, pbound, pconv, pelems, pextract, pmm, parr, pbuild, pfill, PV.mem?, PV.one, PV.cells, pageq, peqs, peq1, palloc, pbox, pbuildS, pmakes, pstore, pappend, pcopy, pbytes, pmark, psrc, vcells, Value.oneCell', look, upd, del, names, Option.map_some, Option.map_none, List.length_cons, List.length_nil, List.all_cons, List.all_nil, Bool.and_true, Bool.true_and, Bool.not_true, Bool.not_false, List.take_zero, List.drop_zero, List.nil_append, List.cons_append, List.append_nil, Nat.reduceAdd, Nat.reduceMul, Nat.reduceSub, Nat.reduceLeDiff, Nat.reduceEqDiff, Nat.zero_add, Nat.add_zero, Nat.mul_one, Nat.zero_mul, List.drop_succ_cons, List.take_succ_cons, List.drop_nil, List.take_nil, ↓reduceIte, ne_eq, true_and, and_true, not_false_eq_true, reduceCtorEq, forall_const, List.toList_toArray, times, List.replicate_succ, List.replicate_zero, List.flatten_cons, List.flatten_nil, Value.cells, Int.toNat_natCast, Int.toNat_zero, Int.toNat_one, bl_mk, bl_lit, wr64, toNat_add1, toNat_sub1, map_getD, Int.natCast_nonneg, List.length_map, Bool.not_not, List.not_mem_nil, Option.some.injEq, exists_and_left, exists_eq_left', Int.cast_ofNat_Int, Int.natCast_zero, eq_self, List.size_toArray, Nat.reduceLT, Int.reduceLT, Int.reduceLE, Int.reduceToNat, Int.reduceAdd, Int.reduceSub, Int.reduceNeg, decide_true, decide_false, List.length_take, List.length_append, List.length_drop, hnm, Tryd.tf0, Tryd.tf3, Tryd.tf4, Tryd.tf5, Tryd.tf9, Tryd.tf22, Tryd.tf24, Tryd.teq24, Tryd.tf27, Tryd.teq30, Tryd.teq31, Tryd.teq43, Tryd.tf44, Tryd.teq44, Tryd.tf48, Tryd.teq48, Tryd.teq54, Tryd.teq63, Tryd.call10, Tryd.call11, Tryd.call13, Tryd.call21, Tryd.call23]); repeat (refine And.intro (by omega) ?_))
    | ((first | with_reducible apply WL_nil | with_reducible apply W_label | with_reducible apply W_skip | with_reducible apply W_exit | with_reducible apply W_ret | with_reducible apply popsD_done); try simp only [seqK, blockK, scopeK, ↓reduceIte, Nat.reduceEqDiff])
    | with_reducible exact popsD_stop
    | (with_reducible apply pguard_intro <;> (intro hc; (try simp only [decide_eq_true_eq, decide_eq_false_iff_not, reduceCtorEq, false_implies, true_implies, and_true, true_and, Bool.not_eq_true, Bool.not_eq_false, forall_const, bne_iff_ne, bne_eq_false_iff_eq, beq_iff_eq, beq_eq_false_iff_ne, ne_eq, Decidable.not_not, Bool.not_eq_eq_eq_not, Bool.not_true, Bool.not_false, Bool.and_eq_true, Bool.or_eq_true, Int.natCast_inj, Bool.and_eq_false_iff, Bool.or_eq_false_iff] at hc); first | (exfalso; omega) | (exfalso; exact hc trivial) | refine Ev_in ?_))
    | (with_reducible apply W_cond_k; intro _ _ ea eb; (simp only [condK, not_true_eq_false, not_false_eq_true, opnd, constPV, List.getD_cons_zero, List.getD_cons_succ, fr_getD_cons, fr_getD_nil, Nat.reduceEqDiff, Nat.reduceLT, ↓reduceIte, decide_eq_true_eq, decide_eq_false_iff_not, reduceCtorEq, false_implies, true_implies, and_true, true_and, Bool.not_eq_true, Bool.not_eq_false, forall_const, bne_iff_ne, bne_eq_false_iff_eq, beq_iff_eq, beq_eq_false_iff_ne, ne_eq, Decidable.not_not, Bool.not_eq_eq_eq_not, Bool.not_true, Bool.not_false, Bool.and_eq_true, Bool.or_eq_true, Int.natCast_inj, Bool.and_eq_false_iff, Bool.or_eq_false_iff]); subst ea eb; first | (refine ⟨fun hc => ?_, fun hc => ?_⟩ <;> first | (exfalso; omega) | (exfalso; exact hc trivial) | skip) | skip)
    | (with_reducible apply hnx; clear hnx nx)
    | (with_reducible refine And.intro (by omega) ?_)
    | (with_reducible refine And.intro ?_ ?_)
    | (with_reducible refine pcall_k (sanity_c G hG1) ?_; rintro _ _ ⟨rfl, rfl⟩ -; refine Ev_in ?_)
    | (with_reducible refine pcall_k (cx) ?_; rintro _ _ ⟨rfl, rfl⟩ -; refine Ev_in ?_)
    | (with_reducible refine pcall_k (cy) ?_; rintro _ _ ⟨rfl, rfl⟩ -; refine Ev_in ?_)
    | (clear hnx nx; with_reducible apply hnx; clear hnx nx)
    | (clear hnx nx; clear hnx nx; with_reducible apply hnx; clear hnx nx)
    | (clear hnx nx; clear hnx nx; clear hnx nx; with_reducible apply hnx; clear hnx nx))
      all_goals first
        | exact rfl
        | (exfalso
           omega)
        | (refine hfin _ _ (Fin_ret1 rfl (Sub_nil _) ?_); simp only [List.getD_cons_zero, List.getD_cons_succ, fr_getD_cons, fr_getD_nil, Nat.reduceEqDiff, Nat.reduceLT, ↓reduceIte]; first | trivial | exact ⟨rfl, by trivial⟩ | (simp; done) | (simp; omega))
    · have he : e = false := hcase.resolve_left (by decide)
      subst he
      (refine PCalls_f Tryd.func8 rfl Tryd.ntmps8 Tryd.results8 (by simp) fun fin hfin => ?_; have hnm : True := trivial; simp (maxSteps := 2000000) (disch := omega) only [↓popG_eq, ↓pop.eq_1, ↓List.getElem?_map, ↓List.getElem?_cons_zero, ↓List.getElem?_cons_succ, pbuiltin, opnd, constPV, PState.put, fr_set, fr_getD_nil, fr_same, fr_other, layFrom, List.set, pnck, pguard_tt, pguard_tf, pguard_ft, pguard_ff, seqK, blockK, scopeK, List.map_cons, List.map_nil, List.getD_cons_zero, List.getD_cons_succ, List.getD_nil, List.getElem?_nil, Option.join_some, Option.join_none, pbin, pun, ppick, plen, pldop, pload, pfaddr, piaddr, pindex, pfield, pslice, pbound, pconv, pelems, pextract, pmm, parr, pbuild, pfill, PV.mem?, PV.one, PV.cells, pageq, peqs, peq1, palloc, pbox, pbuildS, pmakes, pstore, pappend, pcopy, pbytes, pmark, psrc, vcells, Value.oneCell', look, upd, del, names, Option.map_some, Option.map_none, List.length_cons, List.length_nil, List.all_cons, List.all_nil, Bool.and_true, Bool.true_and, Bool.not_true, Bool.not_false, List.take_zero, List.drop_zero, List.nil_append, List.cons_append, List.append_nil, Nat.reduceAdd, Nat.reduceMul, Nat.reduceSub, Nat.reduceLeDiff, Nat.reduceEqDiff, Nat.zero_add, Nat.add_zero, Nat.mul_one, Nat.zero_mul, List.drop_succ_cons, List.take_succ_cons, List.drop_nil, List.take_nil, ↓reduceIte, ne_eq, true_and, and_true, not_false_eq_true, reduceCtorEq, forall_const, List.toList_toArray, times, List.replicate_succ, List.replicate_zero, List.flatten_cons, List.flatten_nil, Value.cells, Int.toNat_natCast, Int.toNat_zero, Int.toNat_one, bl_mk, bl_lit, wr64, toNat_add1, toNat_sub1, map_getD, Int.natCast_nonneg, List.length_map, Bool.not_not, List.not_mem_nil, Option.some.injEq, exists_and_left, exists_eq_left', Int.cast_ofNat_Int, Int.natCast_zero, eq_self, List.size_toArray, Nat.reduceLT, Int.reduceLT, Int.reduceLE, Int.reduceToNat, Int.reduceAdd, Int.reduceSub, Int.reduceNeg, decide_true, decide_false, List.length_take, List.length_append, List.length_drop, hnm, Tryd.tf0, Tryd.tf3, Tryd.tf4, Tryd.tf5, Tryd.tf9, Tryd.tf22, Tryd.tf24, Tryd.teq24, Tryd.tf27, Tryd.teq30, Tryd.teq31, Tryd.teq43, Tryd.tf44, Tryd.teq44, Tryd.tf48, Tryd.teq48, Tryd.teq54, Tryd.teq63, Tryd.call10, Tryd.call11, Tryd.call13, Tryd.call21, Tryd.call23])
      repeat' (first
    | (with_reducible apply W_seq_k; intro nx hnx)
    | with_reducible apply W_block
    | with_reducible apply W_scope
    | (with_reducible refine W_prune 262095 ?_; simp only [prune_cons, prune_nil, Nat.reducePow, Nat.reduceDiv, Nat.reduceMod, Nat.reduceBEq, cond_true, cond_false]; with_reducible apply W_region_l)
    | (with_reducible refine W_prune 262095 ?_; simp only [prune_cons, prune_nil, Nat.reducePow, Nat.reduceDiv, Nat.reduceMod, Nat.reduceBEq, cond_true, cond_false]; with_reducible refine W_region_draw (id := 8) 1 (.op 0 true (.op 1 true (.op 2 true (.op 3 true (.op 4 true (.op 5 true (.op 6 true (.op 7 true (.op 8 true (.op 9 true (.done))))))))))) (by kernel_rfl) ?_)
    | (with_reducible refine W_prune 262095 ?_; simp only [prune_cons, prune_nil, Nat.reducePow, Nat.reduceDiv, Nat.reduceMod, Nat.reduceBEq, cond_true, cond_false]; with_reducible refine W_region_draw (id := 21) 1 (.op 0 true (.op 1 true (.op 2 true (.op 3 true (.op 4 true (.op 5 true (.op 6 true (.op 7 true (.op 8 true (.op 9 true (.op 10 true (.done)))))))))))) (by kernel_rfl) ?_)
    | ((first | (with_reducible apply WL_op; intro nx hnx) | with_reducible refine Ev_out ?_ | (with_reducible apply popsD_op; intro nx hnx) | (with_reducible refine popsD_alt ?_ ?_; intro nx hnx) | (with_reducible refine pfresh_k hnm fun nm hnm => ?_; (try simp only [List.forall_mem_cons, List.not_mem_nil, false_implies, implies_true, and_true, true_and, ne_eq] at hnm))); try (simp (maxSteps := 2000000) (disch := omega) only [↓popG_eq, ↓pop.eq_1, ↓List.getElem?_map, ↓List.getElem?_cons_zero, ↓List.getElem?_cons_succ, pbuiltin, opnd, constPV, PState.put, fr_set, fr_getD_nil, fr_same, fr_other, layFrom, List.set, pnck, pguard_tt, pguard_tf, pguard_ft, pguard_ff, seqK, blockK, scopeK, List.map_cons, List.map_nil, List.getD_cons_zero, List.getD_cons_succ, List.getD_nil, List.getElem?_nil, Option.join_some, Option.join_none, pbin, pun, ppick, plen, pldop, pload, pfaddr, piaddr, pindex, pfield, pslice, pbound, pconv, pelems, pextract, pmm, parr, pbuild, pfill, PV.mem?, PV.one, PV.cells, pageq, peqs, peq1, palloc, pbox, pbuildS, pmakes, pstore, pappend, pcopy, pbytes, pmark, psrc, vcells, Value.oneCell', look, upd, del, names, Option.map_some, Option.map_none, List.length_cons, List.length_nil, List.all_cons, List.all_nil, Bool.and_true, Bool.true_and, Bool.not_true, Bool.not_false, List.take_zero, List.drop_zero, List.nil_append, List.cons_append, List.append_nil, Nat.reduceAdd, Nat.reduceMul, Nat.reduceSub, Nat.reduceLeDiff, Nat.reduceEqDiff, Nat.zero_add, Nat.add_zero, Nat.mul_one, Nat.zero_mul, List.drop_succ_cons, List.take_succ_cons, List.drop_nil, List.take_nil, ↓reduceIte, ne_eq, true_and, and_true, not_false_eq_true, reduceCtorEq, forall_const, List.toList_toArray, times, List.replicate_succ, List.replicate_zero, List.flatten_cons, List.flatten_nil, Value.cells, Int.toNat_natCast, Int.toNat_zero, Int.toNat_one, bl_mk, bl_lit, wr64, toNat_add1, toNat_sub1, map_getD, Int.natCast_nonneg, List.length_map, Bool.not_not, List.not_mem_nil, Option.some.injEq, exists_and_left, exists_eq_left', Int.cast_ofNat_Int, Int.natCast_zero, eq_self, List.size_toArray, Nat.reduceLT, Int.reduceLT, Int.reduceLE, Int.reduceToNat, Int.reduceAdd, Int.reduceSub, Int.reduceNeg, decide_true, decide_false, List.length_take, List.length_append, List.length_drop, hnm, Tryd.tf0, Tryd.tf3, Tryd.tf4, Tryd.tf5, Tryd.tf9, Tryd.tf22, Tryd.tf24, Tryd.teq24, Tryd.tf27, Tryd.teq30, Tryd.teq31, Tryd.teq43, Tryd.tf44, Tryd.teq44, Tryd.tf48, Tryd.teq48, Tryd.teq54, Tryd.teq63, Tryd.call10, Tryd.call11, Tryd.call13, Tryd.call21, Tryd.call23]); repeat (refine And.intro (by omega) ?_))
    | ((first | with_reducible apply WL_nil | with_reducible apply W_label | with_reducible apply W_skip | with_reducible apply W_exit | with_reducible apply W_ret | with_reducible apply popsD_done); try simp only [seqK, blockK, scopeK, ↓reduceIte, Nat.reduceEqDiff])
    | with_reducible exact popsD_stop
    | (with_reducible apply pguard_intro <;> (intro hc; (try simp only [decide_eq_true_eq, decide_eq_false_iff_not, reduceCtorEq, false_implies, true_implies, and_true, true_and, Bool.not_eq_true, Bool.not_eq_false, forall_const, bne_iff_ne, bne_eq_false_iff_eq, beq_iff_eq, beq_eq_false_iff_ne, ne_eq, Decidable.not_not, Bool.not_eq_eq_eq_not, Bool.not_true, Bool.not_false, Bool.and_eq_true, Bool.or_eq_true, Int.natCast_inj, Bool.and_eq_false_iff, Bool.or_eq_false_iff] at hc); first | (exfalso; omega) | (exfalso; exact hc trivial) | refine Ev_in ?_))
    | (with_reducible apply W_cond_k; intro _ _ ea eb; (simp only [condK, not_true_eq_false, not_false_eq_true, opnd, constPV, List.getD_cons_zero, List.getD_cons_succ, fr_getD_cons, fr_getD_nil, Nat.reduceEqDiff, Nat.reduceLT, ↓reduceIte, decide_eq_true_eq, decide_eq_false_iff_not, reduceCtorEq, false_implies, true_implies, and_true, true_and, Bool.not_eq_true, Bool.not_eq_false, forall_const, bne_iff_ne, bne_eq_false_iff_eq, beq_iff_eq, beq_eq_false_iff_ne, ne_eq, Decidable.not_not, Bool.not_eq_eq_eq_not, Bool.not_true, Bool.not_false, Bool.and_eq_true, Bool.or_eq_true, Int.natCast_inj, Bool.and_eq_false_iff, Bool.or_eq_false_iff]); subst ea eb; first | (refine ⟨fun hc => ?_, fun hc => ?_⟩ <;> first | (exfalso; omega) | (exfalso; exact hc trivial) | skip) | skip)
    | (with_reducible apply hnx; clear hnx nx)
    | (with_reducible refine And.intro (by omega) ?_)
    | (with_reducible refine And.intro ?_ ?_)
    | (with_reducible refine pcall_k (sanity_c G hG1) ?_; rintro _ _ ⟨rfl, rfl⟩ -; refine Ev_in ?_)
    | (with_reducible refine pcall_k (cx) ?_; rintro _ _ ⟨rfl, rfl⟩ -; refine Ev_in ?_)
    | (with_reducible refine pcall_k (cy) ?_; rintro _ _ ⟨rfl, rfl⟩ -; refine Ev_in ?_)
    | (clear hnx nx; with_reducible apply hnx; clear hnx nx)
    | (clear hnx nx; clear hnx nx; with_reducible apply hnx; clear hnx nx)
    | (clear hnx nx; clear hnx nx; clear hnx nx; with_reducible apply hnx; clear hnx nx))
      all_goals first
        | exact rfl
        | (exfalso
           omega)
        | (refine hfin _ _ (Fin_ret1 rfl (Sub_nil _) ?_); simp only [List.getD_cons_zero, List.getD_cons_succ, fr_getD_cons, fr_getD_nil, Nat.reduceEqDiff, Nat.reduceLT, ↓reduceIte]; first | trivial | exact ⟨rfl, by trivial⟩ | (simp; done) | (simp; omega))
end Go.PM
