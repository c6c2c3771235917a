/- Joined texts (Fj Fk Ga Gb Gc Mc Gd Ge Gf Gg Gh Md Ma Mt Mq Gi Gj Gk): the machine, the contracts, the laws. Conditions: none but those that each names. -/
import Derived.Test.YtoffobakidenhaaDoorJd
set_option linter.unusedSimpArgs false
set_option linter.unusedVariables false
namespace Go.PM
open Go.Proofs
attribute [local irreducible] W PCalls pcall pcallI WL
def tagB (tag : Int) : UInt8 := UInt8.ofNat (tag % 256).toNat
def ofIn (tag : Int) (parts : List (List UInt8)) : List UInt8 := tagB tag :: parts.flatMap bytesB
def ofH (tag : Int) (parts : List (List UInt8)) : List UInt8 := (sha (ofIn tag parts)).take 16
theorem ofH_len (tag : Int) (parts : List (List UInt8)) : (ofH tag parts).length = 16 := by rw [ofH, List.length_take, sha_len]; rfl
theorem tagB_wrap (tag : Int) : IntKind.u8.wrap tag = (((tagB tag).toNat : Nat) : Int) := by
  have h : (tag % 256).toNat < 256 := by omega
  have h2 : (tagB tag).toNat = (tag % 256).toNat := UInt8.toNat_ofNat_of_lt' (by simpa using h)
  rw [h2]
  simp [IntKind.wrap, IntKind.bits, IntKind.signed]
  omega
theorem bytesB_len (s : List UInt8) (h : s.length ≤ 4000) : (bytesB s).length ≤ s.length + 9 := by
  have := intB_len9 (n := s.length) ⟨by omega, by omega⟩
  rw [bytesB, List.length_append]
  omega
theorem flat_le : ∀ (parts : List (List UInt8)), (∀ p ∈ parts, p.length ≤ 4000) → (parts.flatMap bytesB).length ≤ parts.length * 4009
  | [], _ => by simp
  | p :: ps, h => by
    have h1 := bytesB_len p (h p (.head _))
    have h2 := h p (.head _)
    have h3 := flat_le ps fun q hq => h q (.tail _ hq)
    rw [List.flatMap_cons, List.length_append, List.length_cons]
    omega
def preP (tag : Int) (parts : List (List UInt8)) (i : Nat) : List UInt8 := tagB tag :: (parts.take i).flatMap bytesB
theorem preP_zero (tag : Int) (parts : List (List UInt8)) : preP tag parts 0 = [tagB tag] := by simp [preP]
theorem preP_succ (tag : Int) (parts : List (List UInt8)) (i : Nat) (p : List UInt8) (h : parts[i]? = some p) : preP tag parts (i + 1) = preP tag parts i ++ bytesB p := by
  rw [preP, List.take_add_one, h, Option.toList_some, List.flatMap_append, List.flatMap_singleton, preP]
  rfl
theorem preP_all (tag : Int) (parts : List (List UInt8)) (i : Nat) (h : parts.length ≤ i) : preP tag parts i = ofIn tag parts := by
  rw [preP, List.take_of_length_le h, ofIn]
theorem preP_le (tag : Int) (parts : List (List UInt8)) (i : Nat) (h : ∀ p ∈ parts, p.length ≤ 4000) (hn : parts.length ≤ 100) : (preP tag parts i).length ≤ 400901 := by
  have h1 := flat_le (parts.take i) fun p hp => h p (List.mem_of_mem_take hp)
  rw [preP, List.length_cons]
  rw [List.length_take] at h1
  have : min i parts.length ≤ 100 := by omega
  have := Nat.mul_le_mul_right 4009 this
  omega
theorem ofIn_le (tag : Int) (parts : List (List UInt8)) (h : ∀ p ∈ parts, p.length ≤ 4000) (hn : parts.length ≤ 100) : (ofIn tag parts).length ≤ 400901 := by
  rw [← preP_all tag parts parts.length (Nat.le_refl _)]
  exact preP_le tag parts _ h hn
set_option maxRecDepth 100000 in
set_option maxHeartbeats 8000000 in
theorem input_r (G : Globs) (tag : Int) (parts : List (List UInt8)) (h : ∀ p ∈ parts, p.length ≤ 4000) (hn : parts.length ≤ 100) : PCalls Tryd.prog G 57 [pint .i64 tag, .list 1 (parts.map pstr)] [] (RowB (ofIn tag parts)) := by
  have hw := tagB_wrap tag
  (refine PCalls_f Tryd.func57 rfl Tryd.ntmps57 Tryd.results57 (by simp) fun fin hfin => ?_; have hnm : True := trivial; simp (maxSteps := 2000000) (disch := omega) only [evb, evd, eve, constPV, seqK, blockK, scopeK, pbound, pelems, PV.mem?, PV.one, PV.cells, peqs, peq1, pkeys, List.set, Value.cells, ↓popG_eq, ↓pop.eq_1, ↓List.getElem?_map, ↓List.getElem?_cons_zero, ↓List.getElem?_cons_succ, Value.oneCell', Nat.reduceAdd, Nat.reduceMul, Nat.reduceSub, Nat.reduceLeDiff, Nat.reduceEqDiff, ↓reduceIte, ne_eq, reduceCtorEq, forall_const, exists_and_left, exists_eq_left', eq_self, Nat.reduceLT, Int.reduceLT, Int.reduceLE, Int.reduceToNat, Int.reduceAdd, Int.reduceSub, Int.reduceNeg, hnm, Tryd.tf0, Tryd.tf1, Tryd.tf3, Tryd.tf4, Tryd.tf5, Tryd.tf9, Tryd.tf52, Tryd.tf66, Tryd.call68])
  repeat' (first
    | (with_reducible apply W_seq_k; intro nx hnx)
    | (with_reducible first | apply W_block | apply W_scope)
    | (with_reducible refine W_prune 115 ?_; simp only [prb, Nat.reducePow, Nat.reduceDiv, Nat.reduceMod, Nat.reduceBEq]; with_reducible apply W_region_l)
    | ((first | (with_reducible apply WL_op; intro nx hnx) | with_reducible refine Ev_out ?_ | (with_reducible refine pfresh_k hnm fun nm hnm => ?_; (try simp only [fmb] at hnm)) | (with_reducible refine pborn_mu hnm fun nm hnm => ?_; (try simp only [fmb] at hnm))); try (simp (maxSteps := 2000000) (disch := omega) only [evb, evd, eve, constPV, seqK, blockK, scopeK, pbound, pelems, PV.mem?, PV.one, PV.cells, peqs, peq1, pkeys, List.set, Value.cells, ↓popG_eq, ↓pop.eq_1, ↓List.getElem?_map, ↓List.getElem?_cons_zero, ↓List.getElem?_cons_succ, Value.oneCell', Nat.reduceAdd, Nat.reduceMul, Nat.reduceSub, Nat.reduceLeDiff, Nat.reduceEqDiff, ↓reduceIte, ne_eq, reduceCtorEq, forall_const, exists_and_left, exists_eq_left', eq_self, Nat.reduceLT, Int.reduceLT, Int.reduceLE, Int.reduceToNat, Int.reduceAdd, Int.reduceSub, Int.reduceNeg, hnm, Tryd.tf0, Tryd.tf1, Tryd.tf3, Tryd.tf4, Tryd.tf5, Tryd.tf9, Tryd.tf52, Tryd.tf66, Tryd.call68, hw]); repeat (refine And.intro (by omega) ?_))
    | ((with_reducible first | apply WL_nil | apply W_label | apply W_skip | apply W_exit | apply W_ret); try simp only [seqK, blockK, scopeK, ↓reduceIte, Nat.reduceEqDiff])
    | (with_reducible apply W_cond_k; intro _ _ ea eb; (simp only [condK, cob, opnd, constPV, Nat.reduceEqDiff, Nat.reduceLT, ↓reduceIte, hcb, reduceCtorEq, forall_const, ne_eq]); subst ea eb; first | (refine ⟨fun hc => ?_, fun hc => ?_⟩ <;> first | (exfalso; omega) | (exfalso; exact hc trivial) | skip) | skip)
    | (with_reducible apply hnx; clear hnx nx)
    | (with_reducible refine And.intro (by omega) ?_)
    | (with_reducible refine And.intro ?_ ?_)
    | (clear hnx nx; with_reducible apply hnx; clear hnx nx)
    | (clear hnx nx; clear hnx nx; with_reducible apply hnx; clear hnx nx))
  refine W_loop_k (fun z τ => ∃ (i : Nat) (N : Int) (o : List UInt8), i ≤ parts.length ∧ z = parts.length - i ∧ o = preP tag parts i ∧ τ = ⟨fr 24 [(1, .list 1 (parts.map pstr)), (5, .row N 1 o.length), (6, pint .i64 i)], [(N, ⟨5, true, 1, o.map pbyte⟩)]⟩) parts.length
    ⟨fr 24 [(1, .list 1 (parts.map pstr)), (5, .row nm 1 1), (6, pint .i64 (0 : Nat))], [(nm, ⟨5, true, 1, [pbyte (tagB tag)]⟩)]⟩ (by
    exact Wk_fr (by simp only [wkb, Nat.reduceEqDiff, Nat.reduceLT, ↓reduceIte]) ⟨by simp, by simp [names]⟩) ⟨0, nm, [tagB tag], by omega, by omega, by rw [preP_zero], rfl⟩ ?_
  rintro z τ ⟨i, N, o, hi, rfl, ho, rfl⟩ lp hlp
  have hle := preP_le tag parts i h hn
  rw [← ho] at hle
  by_cases hik : i < parts.length
  · obtain ⟨p, hg⟩ : ∃ p, parts[i]? = some p := ⟨_, List.getElem?_eq_getElem hik⟩
    have hg2 : parts[i]'(by omega) = p := by
      rw [List.getElem?_eq_getElem hik] at hg
      exact Option.some.inj hg
    have hp := h p (List.mem_of_getElem? hg)
    have hbl := bytesB_len p hp
    have hsu := preP_succ tag parts i p hg
    repeat' (first
    | (with_reducible apply W_seq_k; intro nx hnx)
    | (with_reducible first | apply W_block | apply W_scope)
    | (with_reducible refine W_prune 115 ?_; simp only [prb, Nat.reducePow, Nat.reduceDiv, Nat.reduceMod, Nat.reduceBEq]; with_reducible apply W_region_l)
    | ((first | (with_reducible apply WL_op; intro nx hnx) | with_reducible refine Ev_out ?_ | (with_reducible refine pfresh_k hnm fun nm hnm => ?_; (try simp only [fmb] at hnm)) | (with_reducible refine pborn_mu hnm fun nm hnm => ?_; (try simp only [fmb] at hnm))); try (simp (maxSteps := 2000000) (disch := omega) only [evb, evd, eve, constPV, seqK, blockK, scopeK, pbound, pelems, PV.mem?, PV.one, PV.cells, peqs, peq1, pkeys, List.set, Value.cells, ↓popG_eq, ↓pop.eq_1, ↓List.getElem?_map, ↓List.getElem?_cons_zero, ↓List.getElem?_cons_succ, Value.oneCell', Nat.reduceAdd, Nat.reduceMul, Nat.reduceSub, Nat.reduceLeDiff, Nat.reduceEqDiff, ↓reduceIte, ne_eq, reduceCtorEq, forall_const, exists_and_left, exists_eq_left', eq_self, Nat.reduceLT, Int.reduceLT, Int.reduceLE, Int.reduceToNat, Int.reduceAdd, Int.reduceSub, Int.reduceNeg, hnm, Tryd.tf0, Tryd.tf1, Tryd.tf3, Tryd.tf4, Tryd.tf5, Tryd.tf9, Tryd.tf52, Tryd.tf66, Tryd.call68, hg, hg2, flat_pb]); repeat (refine And.intro (by omega) ?_))
    | ((with_reducible first | apply WL_nil | apply W_label | apply W_skip | apply W_exit | apply W_ret); try simp only [seqK, blockK, scopeK, ↓reduceIte, Nat.reduceEqDiff])
    | (with_reducible apply W_cond_k; intro _ _ ea eb; (simp only [condK, cob, opnd, constPV, Nat.reduceEqDiff, Nat.reduceLT, ↓reduceIte, hcb, reduceCtorEq, forall_const, ne_eq]); subst ea eb; first | (refine ⟨fun hc => ?_, fun hc => ?_⟩ <;> first | (exfalso; omega) | (exfalso; exact hc trivial) | skip) | skip)
    | (with_reducible apply hnx; clear hnx nx)
    | (with_reducible refine And.intro (by omega) ?_)
    | (with_reducible refine And.intro ?_ ?_)
    | (with_reducible refine pcall_k (rbytes_c G p (by omega)) ?_; rintro _ _ ⟨rfl, rfl⟩ -; refine Ev_in ?_)
    | (clear hnx nx; with_reducible apply hnx; clear hnx nx)
    | (clear hnx nx; clear hnx nx; with_reducible apply hnx; clear hnx nx))
    all_goals first
      | (exfalso
         omega)
      | (refine hlp _ (parts.length - (i + 1)) _ (by omega) ?_ ⟨i + 1, nm, o ++ bytesB p, by omega, rfl, by rw [hsu, ho], rfl⟩
         rw [List.length_append, List.map_append]
         exact Wk_fr (by simp only [wkb, Nat.reduceEqDiff, Nat.reduceLT, ↓reduceIte, List.length_cons, List.length_nil, Nat.zero_add]) ⟨by simp, by simp [names]⟩)
  · have hoh : o = ofIn tag parts := by rw [ho, preP_all _ _ _ (by omega)]
    rw [← hoh] at hfin
    repeat' (first
    | (with_reducible apply W_seq_k; intro nx hnx)
    | (with_reducible first | apply W_block | apply W_scope)
    | (with_reducible refine W_prune 115 ?_; simp only [prb, Nat.reducePow, Nat.reduceDiv, Nat.reduceMod, Nat.reduceBEq]; with_reducible apply W_region_l)
    | ((first | (with_reducible apply WL_op; intro nx hnx) | with_reducible refine Ev_out ?_ | (with_reducible refine pfresh_k hnm fun nm hnm => ?_; (try simp only [fmb] at hnm)) | (with_reducible refine pborn_mu hnm fun nm hnm => ?_; (try simp only [fmb] at hnm))); try (simp (maxSteps := 2000000) (disch := omega) only [evb, evd, eve, constPV, seqK, blockK, scopeK, pbound, pelems, PV.mem?, PV.one, PV.cells, peqs, peq1, pkeys, List.set, Value.cells, ↓popG_eq, ↓pop.eq_1, ↓List.getElem?_map, ↓List.getElem?_cons_zero, ↓List.getElem?_cons_succ, Value.oneCell', Nat.reduceAdd, Nat.reduceMul, Nat.reduceSub, Nat.reduceLeDiff, Nat.reduceEqDiff, ↓reduceIte, ne_eq, reduceCtorEq, forall_const, exists_and_left, exists_eq_left', eq_self, Nat.reduceLT, Int.reduceLT, Int.reduceLE, Int.reduceToNat, Int.reduceAdd, Int.reduceSub, Int.reduceNeg, hnm, Tryd.tf0, Tryd.tf1, Tryd.tf3, Tryd.tf4, Tryd.tf5, Tryd.tf9, Tryd.tf52, Tryd.tf66, Tryd.call68]); repeat (refine And.intro (by omega) ?_))
    | ((with_reducible first | apply WL_nil | apply W_label | apply W_skip | apply W_exit | apply W_ret); try simp only [seqK, blockK, scopeK, ↓reduceIte, Nat.reduceEqDiff])
    | (with_reducible apply W_cond_k; intro _ _ ea eb; (simp only [condK, cob, opnd, constPV, Nat.reduceEqDiff, Nat.reduceLT, ↓reduceIte, hcb, reduceCtorEq, forall_const, ne_eq]); subst ea eb; first | (refine ⟨fun hc => ?_, fun hc => ?_⟩ <;> first | (exfalso; omega) | (exfalso; exact hc trivial) | skip) | skip)
    | (with_reducible apply hnx; clear hnx nx)
    | (with_reducible refine And.intro (by omega) ?_)
    | (with_reducible refine And.intro ?_ ?_)
    | (clear hnx nx; with_reducible apply hnx; clear hnx nx)
    | (clear hnx nx; clear hnx nx; with_reducible apply hnx; clear hnx nx))
    all_goals first
      | (exfalso
         omega)
      | (refine hfin _ _ (Fin_ret1 rfl (Sub_refl (by simp [names])) ?_); simp only [List.getD_cons_zero, List.getD_cons_succ, fr_getD_cons, fr_getD_nil, Nat.reduceEqDiff, Nat.reduceLT, ↓reduceIte]
         exact ⟨N, rfl, rfl⟩)
theorem input_c (G : Globs) (tag : Int) (parts : List (List UInt8)) (h : ∀ p ∈ parts, p.length ≤ 4000) (hn : parts.length ≤ 100) : PCalls Tryd.prog G 57 [pint .i64 tag, .list 1 (parts.map pstr)] [] (fun res H => res = .list 1 ((ofIn tag parts).map pbyte) ∧ H = []) := RowB.frz (input_r G tag parts h hn)
/-- Bytes that are put in one after the other. -/
def bC (h : List UInt8) (i : Nat) : List PV := tab 16 fun m => if m < i then pbyte (h.getD m 0) else pint .u8 0
theorem bC_len (h : List UInt8) (i : Nat) : (bC h i).length = 16 := tab_len _ _
theorem bC_zero (h : List UInt8) : bC h 0 = List.replicate 16 (pint .u8 0) := by
  rw [bC, tab_congr (g := fun _ => pint .u8 0) (fun i _ => by simp)]
  simp [tab, List.range_succ]
theorem bC_set (h : List UInt8) (i : Nat) (hi : i < 16) : List.take i (bC h i) ++ [pbyte (h.getD i 0)] ++ List.drop (i + 1) (bC h i) = bC h (i + 1) := by
  rw [bC, tab_set hi, bC]
  refine tab_congr fun m _ => ?_
  by_cases h1 : m = i
  · subst h1
    rw [if_pos rfl, if_pos (by omega)]
  · rw [if_neg h1]
    rcases Nat.lt_or_ge m i with h2 | h2
    · rw [if_pos h2, if_pos (by omega)]
    · rw [if_neg (by omega), if_neg (by omega)]
theorem bC_full (h : List UInt8) (hl : 16 ≤ h.length) : bC h 16 = (h.take 16).map pbyte := by
  apply List.ext_getElem?
  intro i
  rcases Nat.lt_or_ge i 16 with hi | hi
  · rw [bC, tab_get hi, if_pos hi, List.getElem?_map, List.getElem?_take_of_lt hi, List.getD_eq_getElem?_getD, List.getElem?_eq_getElem (by omega)]
    rfl
  · rw [List.getElem?_eq_none (by rw [bC_len]; exact hi), List.getElem?_eq_none (by rw [List.length_map, List.length_take]; omega)]
attribute [irreducible] bC
set_option maxRecDepth 100000 in
set_option maxHeartbeats 8000000 in
theorem short_c (G : Globs) (hG : G 0 = .iptr (KS.map pw) 0) (b : List UInt8) (hb : b.length ≤ 4294960000) : PCalls Tryd.prog G 56 [.list 1 (b.map pbyte)] [] (fun res H => res = .agg (((sha b).take 16).map pbyte) ∧ H = []) := by
  have hs := rsum_c G hG b (by omega)
  have hl := sha_len b
  generalize sha b = h at *
  have o1 := all_one_byte h
  have l1 : (h.map pbyte).length = 32 := by rw [List.length_map, hl]
  (refine PCalls_f Tryd.func56 rfl Tryd.ntmps56 Tryd.results56 (by simp) fun fin hfin => ?_; have hnm : True := trivial; simp (maxSteps := 2000000) (disch := omega) only [evb, evd, eve, constPV, seqK, blockK, scopeK, pbound, pelems, PV.mem?, PV.one, PV.cells, peqs, peq1, pkeys, List.set, Value.cells, ↓popG_eq, ↓pop.eq_1, ↓List.getElem?_map, ↓List.getElem?_cons_zero, ↓List.getElem?_cons_succ, Value.oneCell', Nat.reduceAdd, Nat.reduceMul, Nat.reduceSub, Nat.reduceLeDiff, Nat.reduceEqDiff, ↓reduceIte, ne_eq, reduceCtorEq, forall_const, exists_and_left, exists_eq_left', eq_self, Nat.reduceLT, Int.reduceLT, Int.reduceLE, Int.reduceToNat, Int.reduceAdd, Int.reduceSub, Int.reduceNeg, hnm, Tryd.tf0, Tryd.tf3, Tryd.tf4, Tryd.tf5, Tryd.tf23, Tryd.tf52, Tryd.tf89, Tryd.call66])
  repeat' (first
    | (with_reducible apply W_seq_k; intro nx hnx)
    | (with_reducible first | apply W_block | apply W_scope)
    | (with_reducible refine W_prune 61 ?_; simp only [prb, Nat.reducePow, Nat.reduceDiv, Nat.reduceMod, Nat.reduceBEq]; with_reducible apply W_region_l)
    | ((first | (with_reducible apply WL_op; intro nx hnx) | with_reducible refine Ev_out ?_ | (with_reducible refine pfresh_k hnm fun nm hnm => ?_; (try simp only [fmb] at hnm)) | (with_reducible refine pborn_mu hnm fun nm hnm => ?_; (try simp only [fmb] at hnm))); try (simp (maxSteps := 2000000) (disch := omega) only [evb, evd, eve, constPV, seqK, blockK, scopeK, pbound, pelems, PV.mem?, PV.one, PV.cells, peqs, peq1, pkeys, List.set, Value.cells, ↓popG_eq, ↓pop.eq_1, ↓List.getElem?_map, ↓List.getElem?_cons_zero, ↓List.getElem?_cons_succ, Value.oneCell', Nat.reduceAdd, Nat.reduceMul, Nat.reduceSub, Nat.reduceLeDiff, Nat.reduceEqDiff, ↓reduceIte, ne_eq, reduceCtorEq, forall_const, exists_and_left, exists_eq_left', eq_self, Nat.reduceLT, Int.reduceLT, Int.reduceLE, Int.reduceToNat, Int.reduceAdd, Int.reduceSub, Int.reduceNeg, hnm, Tryd.tf0, Tryd.tf3, Tryd.tf4, Tryd.tf5, Tryd.tf23, Tryd.tf52, Tryd.tf89, Tryd.call66, o1, l1]); repeat (refine And.intro (by omega) ?_))
    | ((with_reducible first | apply WL_nil | apply W_label | apply W_skip | apply W_exit | apply W_ret); try simp only [seqK, blockK, scopeK, ↓reduceIte, Nat.reduceEqDiff])
    | (with_reducible apply W_cond_k; intro _ _ ea eb; (simp only [condK, cob, opnd, constPV, Nat.reduceEqDiff, Nat.reduceLT, ↓reduceIte, hcb, reduceCtorEq, forall_const, ne_eq]); subst ea eb; first | (refine ⟨fun hc => ?_, fun hc => ?_⟩ <;> first | (exfalso; omega) | (exfalso; exact hc trivial) | skip) | skip)
    | (with_reducible apply hnx; clear hnx nx)
    | (with_reducible refine And.intro (by omega) ?_)
    | (with_reducible refine And.intro ?_ ?_)
    | (with_reducible refine pcall_k (hs) ?_; rintro _ _ ⟨rfl, rfl⟩ -; refine Ev_in ?_)
    | (clear hnx nx; with_reducible apply hnx; clear hnx nx)
    | (clear hnx nx; clear hnx nx; with_reducible apply hnx; clear hnx nx))
  rename_i N2 _ N3 _
  have hnd : [nm, N3, N2].Nodup := by simp [hnm]
  refine W_loop_k (fun z τ => ∃ j : Nat, j ≤ 16 ∧ z = 16 - j ∧ τ = ⟨fr 19 [(5, pint .i64 j), (4, .ptr nm 0), (3, .ptr N3 0), (2, .ptr N2 0)], [(nm, ⟨23, false, 0, bC h j⟩), (N3, ⟨89, false, 0, h.map pbyte⟩), (N2, ⟨23, false, 0, bC h 0⟩)]⟩) 16
    ⟨fr 19 [(5, pint .i64 (0 : Nat)), (4, .ptr nm 0), (3, .ptr N3 0), (2, .ptr N2 0)], [(nm, ⟨23, false, 0, bC h 0⟩), (N3, ⟨89, false, 0, h.map pbyte⟩), (N2, ⟨23, false, 0, bC h 0⟩)]⟩ (by
    rw [bC_zero]
    refine Wk_fr (by simp only [wkb, Nat.reduceEqDiff, Nat.reduceLT, ↓reduceIte]) ?_
    exact Sub_refl hnd) ⟨0, by omega, by omega, rfl⟩ ?_
  rintro z τ ⟨j, hj, rfl, rfl⟩ lp hlp
  have hcl := bC_len h j
  have hcl0 := bC_len h 0
  by_cases hj2 : j < 16
  · obtain ⟨x, hx⟩ : ∃ x, x = h.getD j 0 := ⟨_, rfl⟩
    have hg : h[j]? = some x := by rw [hx, List.getD_eq_getElem?_getD, List.getElem?_eq_getElem (by omega)]; rfl
    have hg2 : h[j]'(by omega) = x := by
      rw [List.getElem?_eq_getElem (by omega)] at hg
      exact Option.some.inj hg
    have hset := bC_set h j hj2
    rw [← hx] at hset
    repeat' (first
    | (with_reducible apply W_seq_k; intro nx hnx)
    | (with_reducible first | apply W_block | apply W_scope)
    | (with_reducible refine W_prune 61 ?_; simp only [prb, Nat.reducePow, Nat.reduceDiv, Nat.reduceMod, Nat.reduceBEq]; with_reducible apply W_region_l)
    | ((first | (with_reducible apply WL_op; intro nx hnx) | with_reducible refine Ev_out ?_ | (with_reducible refine pfresh_k hnm fun nm hnm => ?_; (try simp only [fmb] at hnm)) | (with_reducible refine pborn_mu hnm fun nm hnm => ?_; (try simp only [fmb] at hnm))); try (simp (maxSteps := 2000000) (disch := omega) only [evb, evd, eve, constPV, seqK, blockK, scopeK, pbound, pelems, PV.mem?, PV.one, PV.cells, peqs, peq1, pkeys, List.set, Value.cells, ↓popG_eq, ↓pop.eq_1, ↓List.getElem?_map, ↓List.getElem?_cons_zero, ↓List.getElem?_cons_succ, Value.oneCell', Nat.reduceAdd, Nat.reduceMul, Nat.reduceSub, Nat.reduceLeDiff, Nat.reduceEqDiff, ↓reduceIte, ne_eq, reduceCtorEq, forall_const, exists_and_left, exists_eq_left', eq_self, Nat.reduceLT, Int.reduceLT, Int.reduceLE, Int.reduceToNat, Int.reduceAdd, Int.reduceSub, Int.reduceNeg, hnm, Tryd.tf0, Tryd.tf3, Tryd.tf4, Tryd.tf5, Tryd.tf23, Tryd.tf52, Tryd.tf89, Tryd.call66, l1, hl, hcl, hcl0, hg, hg2, hset]); repeat (refine And.intro (by omega) ?_))
    | ((with_reducible first | apply WL_nil | apply W_label | apply W_skip | apply W_exit | apply W_ret); try simp only [seqK, blockK, scopeK, ↓reduceIte, Nat.reduceEqDiff])
    | (with_reducible apply W_cond_k; intro _ _ ea eb; (simp only [condK, cob, opnd, constPV, Nat.reduceEqDiff, Nat.reduceLT, ↓reduceIte, hcb, reduceCtorEq, forall_const, ne_eq]); subst ea eb; first | (refine ⟨fun hc => ?_, fun hc => ?_⟩ <;> first | (exfalso; omega) | (exfalso; exact hc trivial) | skip) | skip)
    | (with_reducible apply hnx; clear hnx nx)
    | (with_reducible refine And.intro (by omega) ?_)
    | (with_reducible refine And.intro ?_ ?_)
    | (clear hnx nx; with_reducible apply hnx; clear hnx nx)
    | (clear hnx nx; clear hnx nx; with_reducible apply hnx; clear hnx nx))
    all_goals first
      | (exfalso
         omega)
      | (refine hlp _ (16 - (j + 1)) _ (by omega) ?_ ⟨j + 1, by omega, rfl, rfl⟩
         refine Wk_fr (by simp only [wkb, Nat.reduceEqDiff, Nat.reduceLT, ↓reduceIte]) ?_
         exact Sub_refl hnd)
  · have hje : j = 16 := by omega
    subst hje
    have hcf := bC_full h (by omega)
    have hone := all_one_byte (h.take 16)
    have hol : (h.take 16).length = 16 := by rw [List.length_take]; omega
    have htk : List.take 16 ((h.take 16).map pbyte) = (h.take 16).map pbyte := List.take_of_length_le (by rw [List.length_map]; omega)
    have hdr : List.drop 16 (bC h 0) = [] := List.drop_of_length_le (by omega)
    rw [hcf]
    generalize h.take 16 = q at *
    repeat' (first
    | (with_reducible apply W_seq_k; intro nx hnx)
    | (with_reducible first | apply W_block | apply W_scope)
    | (with_reducible refine W_prune 61 ?_; simp only [prb, Nat.reducePow, Nat.reduceDiv, Nat.reduceMod, Nat.reduceBEq]; with_reducible apply W_region_l)
    | ((first | (with_reducible apply WL_op; intro nx hnx) | with_reducible refine Ev_out ?_ | (with_reducible refine pfresh_k hnm fun nm hnm => ?_; (try simp only [fmb] at hnm)) | (with_reducible refine pborn_mu hnm fun nm hnm => ?_; (try simp only [fmb] at hnm))); try (simp (maxSteps := 2000000) (disch := omega) only [evb, evd, eve, constPV, seqK, blockK, scopeK, pbound, pelems, PV.mem?, PV.one, PV.cells, peqs, peq1, pkeys, List.set, Value.cells, ↓popG_eq, ↓pop.eq_1, ↓List.getElem?_map, ↓List.getElem?_cons_zero, ↓List.getElem?_cons_succ, Value.oneCell', Nat.reduceAdd, Nat.reduceMul, Nat.reduceSub, Nat.reduceLeDiff, Nat.reduceEqDiff, ↓reduceIte, ne_eq, reduceCtorEq, forall_const, exists_and_left, exists_eq_left', eq_self, Nat.reduceLT, Int.reduceLT, Int.reduceLE, Int.reduceToNat, Int.reduceAdd, Int.reduceSub, Int.reduceNeg, hnm, Tryd.tf0, Tryd.tf3, Tryd.tf4, Tryd.tf5, Tryd.tf23, Tryd.tf52, Tryd.tf89, Tryd.call66, hol, htk, hone, hcl0, hdr, Nat.min_self]); repeat (refine And.intro (by omega) ?_))
    | ((with_reducible first | apply WL_nil | apply W_label | apply W_skip | apply W_exit | apply W_ret); try simp only [seqK, blockK, scopeK, ↓reduceIte, Nat.reduceEqDiff])
    | (with_reducible apply W_cond_k; intro _ _ ea eb; (simp only [condK, cob, opnd, constPV, Nat.reduceEqDiff, Nat.reduceLT, ↓reduceIte, hcb, reduceCtorEq, forall_const, ne_eq]); subst ea eb; first | (refine ⟨fun hc => ?_, fun hc => ?_⟩ <;> first | (exfalso; omega) | (exfalso; exact hc trivial) | skip) | skip)
    | (with_reducible apply hnx; clear hnx nx)
    | (with_reducible refine And.intro (by omega) ?_)
    | (with_reducible refine And.intro ?_ ?_)
    | (clear hnx nx; with_reducible apply hnx; clear hnx nx)
    | (clear hnx nx; clear hnx nx; with_reducible apply hnx; clear hnx nx))
    all_goals first
      | (exfalso
         omega)
      | skip
    refine hfin _ _ (Fin_cell (res := .agg (q.map pbyte)) Tryd.tf23 (n := N2) (off := 0) (o := ⟨23, false, 0, q.map pbyte⟩) (by simp only [fr_getD_cons, Nat.reduceEqDiff, Nat.reduceLT, ↓reduceIte]) (by simp [look, hnm]) ?_ (Sub_nil _) ⟨rfl, rfl⟩)
    simp [pload, hol, htk, hone]
set_option maxRecDepth 100000 in
set_option maxHeartbeats 8000000 in
theorem rof_c (G : Globs) (hG : G 0 = .iptr (KS.map pw) 0) (tag : Int) (parts : List (List UInt8)) (h : ∀ p ∈ parts, p.length ≤ 4000) (hn : parts.length ≤ 100) : PCalls Tryd.prog G 35 [pint .i64 tag, .list 1 (parts.map pstr)] [] (fun res H => res = .agg ((ofH tag parts).map pbyte) ∧ H = []) := by
  have hle := ofIn_le tag parts h hn
  have c1 := input_c G tag parts h hn
  have c2 := short_c G hG (ofIn tag parts) (by omega)
  have hd : ofH tag parts = (sha (ofIn tag parts)).take 16 := rfl
  have hol := ofH_len tag parts
  rw [← hd] at c2
  have hone := all_one_byte (ofH tag parts)
  have htk : List.take 16 ((ofH tag parts).map pbyte) = (ofH tag parts).map pbyte := List.take_of_length_le (by rw [List.length_map]; omega)
  generalize ofH tag parts = q at *
  (refine PCalls_f Tryd.func35 rfl Tryd.ntmps35 Tryd.results35 (by simp) fun fin hfin => ?_; have hnm : True := trivial; simp (maxSteps := 2000000) (disch := omega) only [evb, evd, eve, constPV, seqK, blockK, scopeK, pbound, pelems, PV.mem?, PV.one, PV.cells, peqs, peq1, pkeys, List.set, Value.cells, ↓popG_eq, ↓pop.eq_1, ↓List.getElem?_map, ↓List.getElem?_cons_zero, ↓List.getElem?_cons_succ, Value.oneCell', Nat.reduceAdd, Nat.reduceMul, Nat.reduceSub, Nat.reduceLeDiff, Nat.reduceEqDiff, ↓reduceIte, ne_eq, reduceCtorEq, forall_const, exists_and_left, exists_eq_left', eq_self, Nat.reduceLT, Int.reduceLT, Int.reduceLE, Int.reduceToNat, Int.reduceAdd, Int.reduceSub, Int.reduceNeg, hnm, Tryd.tf0, Tryd.tf3, Tryd.tf5, Tryd.tf9, Tryd.tf23, Tryd.tf52, Tryd.tf66, Tryd.call56, Tryd.call57])
  repeat' (first
    | (with_reducible apply W_seq_k; intro nx hnx)
    | (with_reducible first | apply W_block | apply W_scope)
    | (with_reducible refine W_prune 19 ?_; simp only [prb, Nat.reducePow, Nat.reduceDiv, Nat.reduceMod, Nat.reduceBEq]; with_reducible apply W_region_l)
    | ((first | (with_reducible apply WL_op; intro nx hnx) | with_reducible refine Ev_out ?_ | (with_reducible refine pfresh_k hnm fun nm hnm => ?_; (try simp only [fmb] at hnm)) | (with_reducible refine pborn_mu hnm fun nm hnm => ?_; (try simp only [fmb] at hnm))); try (simp (maxSteps := 2000000) (disch := omega) only [evb, evd, eve, constPV, seqK, blockK, scopeK, pbound, pelems, PV.mem?, PV.one, PV.cells, peqs, peq1, pkeys, List.set, Value.cells, ↓popG_eq, ↓pop.eq_1, ↓List.getElem?_map, ↓List.getElem?_cons_zero, ↓List.getElem?_cons_succ, Value.oneCell', Nat.reduceAdd, Nat.reduceMul, Nat.reduceSub, Nat.reduceLeDiff, Nat.reduceEqDiff, ↓reduceIte, ne_eq, reduceCtorEq, forall_const, exists_and_left, exists_eq_left', eq_self, Nat.reduceLT, Int.reduceLT, Int.reduceLE, Int.reduceToNat, Int.reduceAdd, Int.reduceSub, Int.reduceNeg, hnm, Tryd.tf0, Tryd.tf3, Tryd.tf5, Tryd.tf9, Tryd.tf23, Tryd.tf52, Tryd.tf66, Tryd.call56, Tryd.call57, hol, hone, htk]); repeat (refine And.intro (by omega) ?_))
    | ((with_reducible first | apply WL_nil | apply W_label | apply W_skip | apply W_exit | apply W_ret); try simp only [seqK, blockK, scopeK, ↓reduceIte, Nat.reduceEqDiff])
    | (with_reducible apply W_cond_k; intro _ _ ea eb; (simp only [condK, cob, opnd, constPV, Nat.reduceEqDiff, Nat.reduceLT, ↓reduceIte, hcb, reduceCtorEq, forall_const, ne_eq]); subst ea eb; first | (refine ⟨fun hc => ?_, fun hc => ?_⟩ <;> first | (exfalso; omega) | (exfalso; exact hc trivial) | skip) | skip)
    | (with_reducible apply hnx; clear hnx nx)
    | (with_reducible refine And.intro (by omega) ?_)
    | (with_reducible refine And.intro ?_ ?_)
    | (with_reducible refine pcall_k (c1) ?_; rintro _ _ ⟨rfl, rfl⟩ -; refine Ev_in ?_)
    | (with_reducible refine pcall_k (c2) ?_; rintro _ _ ⟨rfl, rfl⟩ -; refine Ev_in ?_)
    | (clear hnx nx; with_reducible apply hnx; clear hnx nx)
    | (clear hnx nx; clear hnx nx; with_reducible apply hnx; clear hnx nx))
  refine hfin _ _ (Fin_cell (res := .agg (q.map pbyte)) Tryd.tf23 (n := nm) (off := 0) (o := ⟨23, false, 0, q.map pbyte⟩) (by simp only [fr_getD_cons, Nat.reduceEqDiff, Nat.reduceLT, ↓reduceIte]) (by simp [look, hnm]) ?_ (Sub_nil _) ⟨rfl, rfl⟩)
  simp [pload, hol, htk, hone]
end Go.PM

namespace Go.PM
open Go.Proofs
attribute [local irreducible] W PCalls pcall pcallI WL
theorem stC_len (t : List UInt8) : (stC t).length = 73 := by rw [stC_st3, st3_len (stS_len t) (qOf_len t)]
theorem stC_one (t : List UInt8) : (stC t).all PV.one = true := by rw [stC_st3]; exact st3_one
theorem stC_take (t : List UInt8) : List.take 73 (stC t) = stC t := List.take_of_length_le (by rw [stC_len]; exact Nat.le_refl _)
theorem stC_drop (t : List UInt8) : List.drop 73 (stC t) = [] := List.drop_of_length_le (by rw [stC_len]; exact Nat.le_refl _)
theorem isB1 (b : UInt8) : isByte (pint .u8 ((b.toNat : Nat) : Int)) = true := by
  have := b.toNat_lt
  simp [isByte]
  omega
attribute [local irreducible] stC
set_option maxRecDepth 100000 in
set_option maxHeartbeats 8000000 in
theorem hof_c (G : Globs) (hG : G 1 = .iptr (KS.map pw) 0) (tag : Int) (parts : List (List UInt8)) (h : ∀ p ∈ parts, p.length ≤ 4000) (hn : parts.length ≤ 100) : PCalls Tryd.prog G 34 [pint .i64 tag, .list 1 (parts.map pstr)] [] (fun res H => res = .agg ((ofH tag parts).map pbyte) ∧ H = []) := by
  have hw := tagB_wrap tag
  have a0 := add_c G hG [] [tagB tag] (by simp)
  rw [List.nil_append] at a0
  have hub := unb_pbyte (tagB tag)
  have his := isB1 (tagB tag)
  have htot := ofIn_le tag parts h hn
  have hs := ssum_c G hG (ofIn tag parts) (by omega)
  have hd : ofH tag parts = (sha (ofIn tag parts)).take 16 := rfl
  have hol := ofH_len tag parts
  have hsl := sha_len (ofIn tag parts)
  have hone := all_one_byte (ofH tag parts)
  have hone2 := all_one_byte (sha (ofIn tag parts))
  have htk : List.take 16 ((ofH tag parts).map pbyte) = (ofH tag parts).map pbyte := List.take_of_length_le (by rw [List.length_map]; omega)
  have htk2 : List.take 16 ((sha (ofIn tag parts)).map pbyte) = (ofH tag parts).map pbyte := by rw [hd, List.map_take]
  have htk3 : List.take 32 ((sha (ofIn tag parts)).map pbyte) = (sha (ofIn tag parts)).map pbyte := List.take_of_length_le (by rw [List.length_map]; omega)
  (refine PCalls_f Tryd.func34 rfl Tryd.ntmps34 Tryd.results34 (by simp) fun fin hfin => ?_; have hnm : True := trivial; simp (maxSteps := 2000000) (disch := omega) only [evb, evd, eve, constPV, seqK, blockK, scopeK, pbound, pelems, PV.mem?, PV.one, PV.cells, peqs, peq1, pkeys, List.set, Value.cells, ↓popG_eq, ↓pop.eq_1, ↓List.getElem?_map, ↓List.getElem?_cons_zero, ↓List.getElem?_cons_succ, Value.oneCell', Nat.reduceAdd, Nat.reduceMul, Nat.reduceSub, Nat.reduceLeDiff, Nat.reduceEqDiff, ↓reduceIte, ne_eq, reduceCtorEq, forall_const, exists_and_left, exists_eq_left', eq_self, Nat.reduceLT, Int.reduceLT, Int.reduceLE, Int.reduceToNat, Int.reduceAdd, Int.reduceSub, Int.reduceNeg, hnm, Tryd.tf0, Tryd.tf1, Tryd.tf3, Tryd.tf5, Tryd.tf9, Tryd.tf23, Tryd.tf52, Tryd.tf66, Tryd.tf85, Tryd.tf89, Tryd.call52, Tryd.call53, Tryd.call54, Tryd.call55])
  with_reducible apply W_seq_k
  intro nx hnx
  repeat' (first
    | (with_reducible first | apply W_block | apply W_scope)
    | (with_reducible refine W_prune 229811 ?_; simp only [prb, Nat.reducePow, Nat.reduceDiv, Nat.reduceMod, Nat.reduceBEq]; first | (with_reducible apply W_region_l) | with_reducible refine W_region_draw (id := 1) 3 (.op 1 true (.op 2 true (.alt 0 true (.alt 3 false (.op 4 true (.alt 5 false (.op 6 true (.op 7 false (.done))) (.alt 6 true (.op 5 false (.op 7 false (.done))) .stop))) (.alt 6 true (.op 3 false (.op 4 true (.op 5 false (.op 7 false (.done))))) .stop)) (.alt 3 false (.op 4 true (.alt 0 true (.alt 5 false (.op 6 true (.op 7 false (.done))) (.alt 6 true (.op 5 false (.op 7 false (.done))) .stop)) (.alt 6 true (.op 0 true (.op 5 false (.op 7 false (.done)))) .stop))) (.alt 6 true (.alt 0 true (.op 3 false (.op 4 true (.op 5 false (.op 7 false (.done))))) (.alt 3 false (.op 4 true (.op 0 true (.op 5 false (.op 7 false (.done))))) .stop)) .stop))))) (by kernel_rfl) ?_ | with_reducible refine W_region_draw (id := 5) 1 (.op 0 true (.op 1 true (.op 2 true (.op 3 true (.op 4 false (.op 5 false (.done))))))) (by kernel_rfl) ?_)
    | ((first | (with_reducible apply WL_op; intro nx hnx) | with_reducible refine Ev_out ?_ | (with_reducible apply popsD_op; intro nx hnx) | (with_reducible refine popsD_alt ?_ ?_; intro nx hnx) | (with_reducible refine pfresh_k hnm fun nm hnm => ?_; (try simp only [fmb] at hnm)) | (with_reducible refine pborn_mu hnm fun nm hnm => ?_; (try simp only [fmb] at hnm))); try (simp (maxSteps := 2000000) (disch := omega) only [evb, evd, eve, constPV, seqK, blockK, scopeK, pbound, pelems, PV.mem?, PV.one, PV.cells, peqs, peq1, pkeys, List.set, Value.cells, ↓popG_eq, ↓pop.eq_1, ↓List.getElem?_map, ↓List.getElem?_cons_zero, ↓List.getElem?_cons_succ, Value.oneCell', Nat.reduceAdd, Nat.reduceMul, Nat.reduceSub, Nat.reduceLeDiff, Nat.reduceEqDiff, ↓reduceIte, ne_eq, reduceCtorEq, forall_const, exists_and_left, exists_eq_left', eq_self, Nat.reduceLT, Int.reduceLT, Int.reduceLE, Int.reduceToNat, Int.reduceAdd, Int.reduceSub, Int.reduceNeg, hnm, Tryd.tf0, Tryd.tf1, Tryd.tf3, Tryd.tf5, Tryd.tf9, Tryd.tf23, Tryd.tf52, Tryd.tf66, Tryd.tf85, Tryd.tf89, Tryd.call52, Tryd.call53, Tryd.call54, Tryd.call55]); repeat (refine And.intro (by omega) ?_))
    | ((with_reducible first | apply WL_nil | apply W_label | apply W_skip | apply W_exit | apply W_ret | apply popsD_done); try simp only [seqK, blockK, scopeK, ↓reduceIte, Nat.reduceEqDiff])
    | with_reducible exact popsD_stop
    | (with_reducible apply W_cond_k; intro _ _ ea eb; (simp only [condK, cob, opnd, constPV, Nat.reduceEqDiff, Nat.reduceLT, ↓reduceIte, hcb, reduceCtorEq, forall_const, ne_eq]); subst ea eb; first | (refine ⟨fun hc => ?_, fun hc => ?_⟩ <;> first | (exfalso; omega) | (exfalso; exact hc trivial) | skip) | skip)
    | (with_reducible apply hnx; clear hnx nx)
    | (with_reducible refine And.intro (by omega) ?_)
    | (with_reducible refine And.intro ?_ ?_)
    | (clear hnx nx; with_reducible apply hnx; clear hnx nx)
    | (clear hnx nx; clear hnx nx; with_reducible apply hnx; clear hnx nx))
  obtain ⟨N4, hN4⟩ : ∃ N, N = nm := ⟨_, rfl⟩
  subst hN4
  with_reducible apply W_seq_k
  intro nx hnx
  obtain ⟨Z, hZ⟩ : ∃ Z, Z = List.replicate 16 (pint .u8 0) := ⟨_, rfl⟩
  have hZl : Z.length = 16 := by rw [hZ]; rfl
  have hnx := W_join hnx (fun τ => ∃ N5 : Int, ¬ N5 = N4 ∧ τ = ⟨fr 32 [(1, .list 1 (parts.map pstr)), (4, .ptr N4 0), (5, .ptr N5 0)], [(N5, ⟨85, false, 0, stC [tagB tag]⟩), (N4, ⟨23, false, 0, Z⟩)]⟩) (by
    clear hnx nx hnm a0 his hub hw
    rintro τ ⟨N5, hN, rfl⟩
    have hnm : ¬ N5 = N4 ∧ ¬ N4 = N5 := ⟨hN, fun e => hN e.symm⟩
    have hnd : [N5, N4].Nodup := by simp [hN]
    repeat' (first
    | (with_reducible apply W_seq_k; intro nx hnx)
    | (with_reducible first | apply W_block | apply W_scope)
    | (with_reducible refine W_prune 229811 ?_; simp only [prb, Nat.reducePow, Nat.reduceDiv, Nat.reduceMod, Nat.reduceBEq]; first | (with_reducible apply W_region_l) | with_reducible refine W_region_draw (id := 1) 3 (.op 1 true (.op 2 true (.alt 0 true (.alt 3 false (.op 4 true (.alt 5 false (.op 6 true (.op 7 false (.done))) (.alt 6 true (.op 5 false (.op 7 false (.done))) .stop))) (.alt 6 true (.op 3 false (.op 4 true (.op 5 false (.op 7 false (.done))))) .stop)) (.alt 3 false (.op 4 true (.alt 0 true (.alt 5 false (.op 6 true (.op 7 false (.done))) (.alt 6 true (.op 5 false (.op 7 false (.done))) .stop)) (.alt 6 true (.op 0 true (.op 5 false (.op 7 false (.done)))) .stop))) (.alt 6 true (.alt 0 true (.op 3 false (.op 4 true (.op 5 false (.op 7 false (.done))))) (.alt 3 false (.op 4 true (.op 0 true (.op 5 false (.op 7 false (.done))))) .stop)) .stop))))) (by kernel_rfl) ?_ | with_reducible refine W_region_draw (id := 5) 1 (.op 0 true (.op 1 true (.op 2 true (.op 3 true (.op 4 false (.op 5 false (.done))))))) (by kernel_rfl) ?_)
    | ((first | (with_reducible apply WL_op; intro nx hnx) | with_reducible refine Ev_out ?_ | (with_reducible apply popsD_op; intro nx hnx) | (with_reducible refine popsD_alt ?_ ?_; intro nx hnx) | (with_reducible refine pfresh_k hnm fun nm hnm => ?_; (try simp only [fmb] at hnm)) | (with_reducible refine pborn_mu hnm fun nm hnm => ?_; (try simp only [fmb] at hnm))); try (simp (maxSteps := 2000000) (disch := omega) only [evb, evd, eve, constPV, seqK, blockK, scopeK, pbound, pelems, PV.mem?, PV.one, PV.cells, peqs, peq1, pkeys, List.set, Value.cells, ↓popG_eq, ↓pop.eq_1, ↓List.getElem?_map, ↓List.getElem?_cons_zero, ↓List.getElem?_cons_succ, Value.oneCell', Nat.reduceAdd, Nat.reduceMul, Nat.reduceSub, Nat.reduceLeDiff, Nat.reduceEqDiff, ↓reduceIte, ne_eq, reduceCtorEq, forall_const, exists_and_left, exists_eq_left', eq_self, Nat.reduceLT, Int.reduceLT, Int.reduceLE, Int.reduceToNat, Int.reduceAdd, Int.reduceSub, Int.reduceNeg, hnm, Tryd.tf0, Tryd.tf1, Tryd.tf3, Tryd.tf5, Tryd.tf9, Tryd.tf23, Tryd.tf52, Tryd.tf66, Tryd.tf85, Tryd.tf89, Tryd.call52, Tryd.call53, Tryd.call54, Tryd.call55]); repeat (refine And.intro (by omega) ?_))
    | ((with_reducible first | apply WL_nil | apply W_label | apply W_skip | apply W_exit | apply W_ret | apply popsD_done); try simp only [seqK, blockK, scopeK, ↓reduceIte, Nat.reduceEqDiff])
    | with_reducible exact popsD_stop
    | (with_reducible apply W_cond_k; intro _ _ ea eb; (simp only [condK, cob, opnd, constPV, Nat.reduceEqDiff, Nat.reduceLT, ↓reduceIte, hcb, reduceCtorEq, forall_const, ne_eq]); subst ea eb; first | (refine ⟨fun hc => ?_, fun hc => ?_⟩ <;> first | (exfalso; omega) | (exfalso; exact hc trivial) | skip) | skip)
    | (with_reducible apply hnx; clear hnx nx)
    | (with_reducible refine And.intro (by omega) ?_)
    | (with_reducible refine And.intro ?_ ?_)
    | (clear hnx nx; with_reducible apply hnx; clear hnx nx)
    | (clear hnx nx; clear hnx nx; with_reducible apply hnx; clear hnx nx))
    refine W_loop_k (fun z τ => ∃ (i : Nat) (u : List UInt8), i ≤ parts.length ∧ z = parts.length - i ∧ u = preP tag parts i ∧ τ = ⟨fr 32 [(15, .list 1 (parts.map pstr)), (16, pint .i64 parts.length), (17, pint .i64 i), (4, .ptr N4 0), (5, .ptr N5 0)], [(N5, ⟨85, false, 0, stC u⟩), (N4, ⟨23, false, 0, Z⟩)]⟩) parts.length
      ⟨fr 32 [(15, .list 1 (parts.map pstr)), (16, pint .i64 parts.length), (17, pint .i64 (0 : Nat)), (4, .ptr N4 0), (5, .ptr N5 0)], [(N5, ⟨85, false, 0, stC [tagB tag]⟩), (N4, ⟨23, false, 0, Z⟩)]⟩ (by
      refine Wk_fr (by simp only [wkb, Nat.reduceEqDiff, Nat.reduceLT, ↓reduceIte]) ?_
      exact Sub_refl hnd) ⟨0, [tagB tag], by omega, by omega, (preP_zero tag parts).symm, rfl⟩ ?_
    rintro z τ ⟨i, u, hi, rfl, hu, rfl⟩ lp hlp
    have hle := preP_le tag parts i h hn
    rw [← hu] at hle
    have l1 := stC_len u
    have l2 := stC_one u
    have l3 := stC_take u
    have l4 := stC_drop u
    by_cases hik : i < parts.length
    · obtain ⟨p, hg⟩ : ∃ p, parts[i]? = some p := ⟨_, List.getElem?_eq_getElem hik⟩
      have hg2 : parts[i]'(by omega) = p := by
        rw [List.getElem?_eq_getElem hik] at hg
        exact Option.some.inj hg
      have hp := h p (List.mem_of_getElem? hg)
      have hbl := bytesB_len p hp
      have hsu := preP_succ tag parts i p hg
      have b1 := isByte_pb (bytesB p)
      have b2 := unb_pb (bytesB p)
      have a1 := add_c G hG u (bytesB p) (by omega)
      rw [← hu] at hsu
      have m1 := stC_len (u ++ bytesB p)
      have m2 := stC_one (u ++ bytesB p)
      have m3 := stC_take (u ++ bytesB p)
      repeat' (first
    | (with_reducible apply W_seq_k; intro nx hnx)
    | (with_reducible first | apply W_block | apply W_scope)
    | (with_reducible refine W_prune 229811 ?_; simp only [prb, Nat.reducePow, Nat.reduceDiv, Nat.reduceMod, Nat.reduceBEq]; first | (with_reducible apply W_region_l) | with_reducible refine W_region_draw (id := 1) 3 (.op 1 true (.op 2 true (.alt 0 true (.alt 3 false (.op 4 true (.alt 5 false (.op 6 true (.op 7 false (.done))) (.alt 6 true (.op 5 false (.op 7 false (.done))) .stop))) (.alt 6 true (.op 3 false (.op 4 true (.op 5 false (.op 7 false (.done))))) .stop)) (.alt 3 false (.op 4 true (.alt 0 true (.alt 5 false (.op 6 true (.op 7 false (.done))) (.alt 6 true (.op 5 false (.op 7 false (.done))) .stop)) (.alt 6 true (.op 0 true (.op 5 false (.op 7 false (.done)))) .stop))) (.alt 6 true (.alt 0 true (.op 3 false (.op 4 true (.op 5 false (.op 7 false (.done))))) (.alt 3 false (.op 4 true (.op 0 true (.op 5 false (.op 7 false (.done))))) .stop)) .stop))))) (by kernel_rfl) ?_ | with_reducible refine W_region_draw (id := 5) 1 (.op 0 true (.op 1 true (.op 2 true (.op 3 true (.op 4 false (.op 5 false (.done))))))) (by kernel_rfl) ?_)
    | ((first | (with_reducible apply WL_op; intro nx hnx) | with_reducible refine Ev_out ?_ | (with_reducible apply popsD_op; intro nx hnx) | (with_reducible refine popsD_alt ?_ ?_; intro nx hnx) | (with_reducible refine pfresh_k hnm fun nm hnm => ?_; (try simp only [fmb] at hnm)) | (with_reducible refine pborn_mu hnm fun nm hnm => ?_; (try simp only [fmb] at hnm))); try (simp (maxSteps := 2000000) (disch := omega) only [evb, evd, eve, constPV, seqK, blockK, scopeK, pbound, pelems, PV.mem?, PV.one, PV.cells, peqs, peq1, pkeys, List.set, Value.cells, ↓popG_eq, ↓pop.eq_1, ↓List.getElem?_map, ↓List.getElem?_cons_zero, ↓List.getElem?_cons_succ, Value.oneCell', Nat.reduceAdd, Nat.reduceMul, Nat.reduceSub, Nat.reduceLeDiff, Nat.reduceEqDiff, ↓reduceIte, ne_eq, reduceCtorEq, forall_const, exists_and_left, exists_eq_left', eq_self, Nat.reduceLT, Int.reduceLT, Int.reduceLE, Int.reduceToNat, Int.reduceAdd, Int.reduceSub, Int.reduceNeg, hnm, Tryd.tf0, Tryd.tf1, Tryd.tf3, Tryd.tf5, Tryd.tf9, Tryd.tf23, Tryd.tf52, Tryd.tf66, Tryd.tf85, Tryd.tf89, Tryd.call52, Tryd.call53, Tryd.call54, Tryd.call55, hg, hg2, b1, b2, l1, l2, l3, l4, m1, m2, m3]); repeat (refine And.intro (by omega) ?_))
    | ((with_reducible first | apply WL_nil | apply W_label | apply W_skip | apply W_exit | apply W_ret | apply popsD_done); try simp only [seqK, blockK, scopeK, ↓reduceIte, Nat.reduceEqDiff])
    | with_reducible exact popsD_stop
    | (with_reducible apply W_cond_k; intro _ _ ea eb; (simp only [condK, cob, opnd, constPV, Nat.reduceEqDiff, Nat.reduceLT, ↓reduceIte, hcb, reduceCtorEq, forall_const, ne_eq]); subst ea eb; first | (refine ⟨fun hc => ?_, fun hc => ?_⟩ <;> first | (exfalso; omega) | (exfalso; exact hc trivial) | skip) | skip)
    | (with_reducible apply hnx; clear hnx nx)
    | (with_reducible refine And.intro (by omega) ?_)
    | (with_reducible refine And.intro ?_ ?_)
    | (with_reducible refine pcall_k (wbytes_c G p (by omega)) ?_; rintro _ _ ⟨rfl, rfl⟩ -; refine Ev_in ?_)
    | (with_reducible refine pcall_k (a1) ?_; rintro _ _ ⟨rfl, rfl⟩ -; refine Ev_in ?_)
    | (clear hnx nx; with_reducible apply hnx; clear hnx nx)
    | (clear hnx nx; clear hnx nx; with_reducible apply hnx; clear hnx nx))
      all_goals first
        | exact rfl
        | (exfalso
           omega)
        | (refine hlp _ (parts.length - (i + 1)) _ (by omega) ?_ ⟨i + 1, u ++ bytesB p, by omega, rfl, hsu.symm, rfl⟩
           refine Wk_fr (by simp only [wkb, Nat.reduceEqDiff, Nat.reduceLT, ↓reduceIte]) ?_
           exact Sub_refl hnd)
    · have hui : u = ofIn tag parts := by rw [hu, preP_all _ _ _ (by omega)]
      rw [← hui] at hs hone2 htk2 htk3 hsl
      have hZd : List.drop 16 Z = [] := List.drop_of_length_le (by omega)
      have hsl2 : ((sha u).map pbyte).length = 32 := by rw [List.length_map, hsl]
      have hol2 : ((ofH tag parts).map pbyte).length = 16 := by rw [List.length_map, hol]
      repeat' (first
    | (with_reducible apply W_seq_k; intro nx hnx)
    | (with_reducible first | apply W_block | apply W_scope)
    | (with_reducible refine W_prune 229811 ?_; simp only [prb, Nat.reducePow, Nat.reduceDiv, Nat.reduceMod, Nat.reduceBEq]; first | (with_reducible apply W_region_l) | with_reducible refine W_region_draw (id := 1) 3 (.op 1 true (.op 2 true (.alt 0 true (.alt 3 false (.op 4 true (.alt 5 false (.op 6 true (.op 7 false (.done))) (.alt 6 true (.op 5 false (.op 7 false (.done))) .stop))) (.alt 6 true (.op 3 false (.op 4 true (.op 5 false (.op 7 false (.done))))) .stop)) (.alt 3 false (.op 4 true (.alt 0 true (.alt 5 false (.op 6 true (.op 7 false (.done))) (.alt 6 true (.op 5 false (.op 7 false (.done))) .stop)) (.alt 6 true (.op 0 true (.op 5 false (.op 7 false (.done)))) .stop))) (.alt 6 true (.alt 0 true (.op 3 false (.op 4 true (.op 5 false (.op 7 false (.done))))) (.alt 3 false (.op 4 true (.op 0 true (.op 5 false (.op 7 false (.done))))) .stop)) .stop))))) (by kernel_rfl) ?_ | with_reducible refine W_region_draw (id := 5) 1 (.op 0 true (.op 1 true (.op 2 true (.op 3 true (.op 4 false (.op 5 false (.done))))))) (by kernel_rfl) ?_)
    | ((first | (with_reducible apply WL_op; intro nx hnx) | with_reducible refine Ev_out ?_ | (with_reducible apply popsD_op; intro nx hnx) | (with_reducible refine popsD_alt ?_ ?_; intro nx hnx) | (with_reducible refine pfresh_k hnm fun nm hnm => ?_; (try simp only [fmb] at hnm)) | (with_reducible refine pborn_mu hnm fun nm hnm => ?_; (try simp only [fmb] at hnm))); try (simp (maxSteps := 2000000) (disch := omega) only [evb, evd, eve, constPV, seqK, blockK, scopeK, pbound, pelems, PV.mem?, PV.one, PV.cells, peqs, peq1, pkeys, List.set, Value.cells, ↓popG_eq, ↓pop.eq_1, ↓List.getElem?_map, ↓List.getElem?_cons_zero, ↓List.getElem?_cons_succ, Value.oneCell', Nat.reduceAdd, Nat.reduceMul, Nat.reduceSub, Nat.reduceLeDiff, Nat.reduceEqDiff, ↓reduceIte, ne_eq, reduceCtorEq, forall_const, exists_and_left, exists_eq_left', eq_self, Nat.reduceLT, Int.reduceLT, Int.reduceLE, Int.reduceToNat, Int.reduceAdd, Int.reduceSub, Int.reduceNeg, hnm, Tryd.tf0, Tryd.tf1, Tryd.tf3, Tryd.tf5, Tryd.tf9, Tryd.tf23, Tryd.tf52, Tryd.tf66, Tryd.tf85, Tryd.tf89, Tryd.call52, Tryd.call53, Tryd.call54, Tryd.call55, l1, l2, l3, l4, hone2, htk2, htk3, hsl, hsl2, hZl, hZd, hol, hol2, hone, htk]); repeat (refine And.intro (by omega) ?_))
    | ((with_reducible first | apply WL_nil | apply W_label | apply W_skip | apply W_exit | apply W_ret | apply popsD_done); try simp only [seqK, blockK, scopeK, ↓reduceIte, Nat.reduceEqDiff])
    | with_reducible exact popsD_stop
    | (with_reducible apply W_cond_k; intro _ _ ea eb; (simp only [condK, cob, opnd, constPV, Nat.reduceEqDiff, Nat.reduceLT, ↓reduceIte, hcb, reduceCtorEq, forall_const, ne_eq]); subst ea eb; first | (refine ⟨fun hc => ?_, fun hc => ?_⟩ <;> first | (exfalso; omega) | (exfalso; exact hc trivial) | skip) | skip)
    | (with_reducible apply hnx; clear hnx nx)
    | (with_reducible refine And.intro (by omega) ?_)
    | (with_reducible refine And.intro ?_ ?_)
    | (with_reducible refine pcall_k (hs) ?_; rintro _ _ ⟨rfl, rfl⟩ -; refine Ev_in ?_)
    | (clear hnx nx; with_reducible apply hnx; clear hnx nx)
    | (clear hnx nx; clear hnx nx; with_reducible apply hnx; clear hnx nx))
      all_goals first
        | exact rfl
        | (exfalso
           omega)
        | skip
      generalize ofH tag parts = f at *
      refine hfin _ _ (Fin_cell (res := .agg (f.map pbyte)) Tryd.tf23 (n := N4) (off := 0) (o := ⟨23, false, 0, f.map pbyte⟩) (by simp only [fr_getD_cons, Nat.reduceEqDiff, Nat.reduceLT, ↓reduceIte]) (by simp [look, hnm]) ?_ (Sub_nil _) ⟨rfl, rfl⟩)
      simp [pload, hol, htk, hone])
  have mkT : ∀ (l : List (Nat × PV)) (H : Heap) (a : Int), ¬ a = N4 → (∀ x ∈ [(1, PV.list 1 (parts.map pstr)), (4, PV.ptr N4 0), (5, PV.ptr a 0)], (fr 32 l).getD x.1 .junk = x.2) →
      Sub [(a, ⟨85, false, 0, stC [tagB tag]⟩), (N4, ⟨23, false, 0, Z⟩)] H → nx ⟨fr 32 l, H⟩ :=
    fun l H a h1 h2 h3 => hnx _ ⟨_, ⟨a, h1, rfl⟩, Wk_fr h2 h3⟩
  clear hnx
  have l1 := stC_len [tagB tag]
  have l2 := stC_one [tagB tag]
  have l3 := stC_take [tagB tag]
  repeat' (first
    | (with_reducible apply W_seq_k; intro nx hnx)
    | (with_reducible first | apply W_block | apply W_scope)
    | (with_reducible refine W_prune 229811 ?_; simp only [prb, Nat.reducePow, Nat.reduceDiv, Nat.reduceMod, Nat.reduceBEq]; first | (with_reducible apply W_region_l) | with_reducible refine W_region_draw (id := 1) 3 (.op 1 true (.op 2 true (.alt 0 true (.alt 3 false (.op 4 true (.alt 5 false (.op 6 true (.op 7 false (.done))) (.alt 6 true (.op 5 false (.op 7 false (.done))) .stop))) (.alt 6 true (.op 3 false (.op 4 true (.op 5 false (.op 7 false (.done))))) .stop)) (.alt 3 false (.op 4 true (.alt 0 true (.alt 5 false (.op 6 true (.op 7 false (.done))) (.alt 6 true (.op 5 false (.op 7 false (.done))) .stop)) (.alt 6 true (.op 0 true (.op 5 false (.op 7 false (.done)))) .stop))) (.alt 6 true (.alt 0 true (.op 3 false (.op 4 true (.op 5 false (.op 7 false (.done))))) (.alt 3 false (.op 4 true (.op 0 true (.op 5 false (.op 7 false (.done))))) .stop)) .stop))))) (by kernel_rfl) ?_ | with_reducible refine W_region_draw (id := 5) 1 (.op 0 true (.op 1 true (.op 2 true (.op 3 true (.op 4 false (.op 5 false (.done))))))) (by kernel_rfl) ?_)
    | ((first | (with_reducible apply WL_op; intro nx hnx) | with_reducible refine Ev_out ?_ | (with_reducible apply popsD_op; intro nx hnx) | (with_reducible refine popsD_alt ?_ ?_; intro nx hnx) | (with_reducible refine pfresh_k hnm fun nm hnm => ?_; (try simp only [fmb] at hnm)) | (with_reducible refine pborn_mu hnm fun nm hnm => ?_; (try simp only [fmb] at hnm))); try (simp (maxSteps := 2000000) (disch := omega) only [evb, evd, eve, constPV, seqK, blockK, scopeK, pbound, pelems, PV.mem?, PV.one, PV.cells, peqs, peq1, pkeys, List.set, Value.cells, ↓popG_eq, ↓pop.eq_1, ↓List.getElem?_map, ↓List.getElem?_cons_zero, ↓List.getElem?_cons_succ, Value.oneCell', Nat.reduceAdd, Nat.reduceMul, Nat.reduceSub, Nat.reduceLeDiff, Nat.reduceEqDiff, ↓reduceIte, ne_eq, reduceCtorEq, forall_const, exists_and_left, exists_eq_left', eq_self, Nat.reduceLT, Int.reduceLT, Int.reduceLE, Int.reduceToNat, Int.reduceAdd, Int.reduceSub, Int.reduceNeg, hnm, Tryd.tf0, Tryd.tf1, Tryd.tf3, Tryd.tf5, Tryd.tf9, Tryd.tf23, Tryd.tf52, Tryd.tf66, Tryd.tf85, Tryd.tf89, Tryd.call52, Tryd.call53, Tryd.call54, Tryd.call55, hw, hub, his, l1, l2, l3]); repeat (refine And.intro (by omega) ?_))
    | ((with_reducible first | apply WL_nil | apply W_label | apply W_skip | apply W_exit | apply W_ret | apply popsD_done); try simp only [seqK, blockK, scopeK, ↓reduceIte, Nat.reduceEqDiff])
    | with_reducible exact popsD_stop
    | (with_reducible apply W_cond_k; intro _ _ ea eb; (simp only [condK, cob, opnd, constPV, Nat.reduceEqDiff, Nat.reduceLT, ↓reduceIte, hcb, reduceCtorEq, forall_const, ne_eq]); subst ea eb; first | (refine ⟨fun hc => ?_, fun hc => ?_⟩ <;> first | (exfalso; omega) | (exfalso; exact hc trivial) | skip) | skip)
    | (with_reducible apply hnx; clear hnx nx)
    | (with_reducible refine And.intro (by omega) ?_)
    | (with_reducible refine And.intro ?_ ?_)
    | (with_reducible refine pcall_k (begin_c G) ?_; rintro _ _ ⟨rfl, rfl⟩ -; refine Ev_in ?_)
    | (with_reducible refine pcall_k (a0) ?_; rintro _ _ ⟨rfl, rfl⟩ -; refine Ev_in ?_)
    | (clear hnx nx; with_reducible apply hnx; clear hnx nx)
    | (clear hnx nx; clear hnx nx; with_reducible apply hnx; clear hnx nx))
  all_goals first
    | exact rfl
    | skip
  all_goals
    rw [hZ] at mkT
    apply mkT
    rotate_left
    · simp only [List.forall_mem_cons, List.not_mem_nil, false_implies, implies_true, and_true, fr_getD_cons, fr_getD_nil, Nat.reduceEqDiff, Nat.reduceLT, ↓reduceIte]
      exact ⟨trivial, trivial, rfl⟩
    · exact ⟨by simp [List.replicate_succ], by simp [names, hnm]⟩
    · simp [hnm]
end Go.PM

namespace Go.PM
open Go.Proofs
attribute [local irreducible] W PCalls pcall pcallI WL
set_option maxRecDepth 100000 in
set_option maxHeartbeats 8000000 in
theorem valid_c (G : Globs) (n : Int) : PCalls Tryd.prog G 21 [pint .i64 n] [] (fun res H => res = pbool (decide (0 ≤ n ∧ n ≤ 6)) ∧ H = []) := by
  (refine PCalls_f Tryd.func21 rfl Tryd.ntmps21 Tryd.results21 (by simp) fun fin hfin => ?_; have hnm : True := trivial; simp (maxSteps := 2000000) (disch := omega) only [evb, evd, eve, constPV, seqK, blockK, scopeK, pbound, pelems, PV.mem?, PV.one, PV.cells, peqs, peq1, pkeys, List.set, Value.cells, ↓popG_eq, ↓pop.eq_1, ↓List.getElem?_map, ↓List.getElem?_cons_zero, ↓List.getElem?_cons_succ, Value.oneCell', Nat.reduceAdd, Nat.reduceMul, Nat.reduceSub, Nat.reduceLeDiff, Nat.reduceEqDiff, ↓reduceIte, ne_eq, reduceCtorEq, forall_const, exists_and_left, exists_eq_left', eq_self, Nat.reduceLT, Int.reduceLT, Int.reduceLE, Int.reduceToNat, Int.reduceAdd, Int.reduceSub, Int.reduceNeg, hnm, Tryd.tf3, Tryd.tf4])
  by_cases h1 : 0 ≤ n <;> by_cases h2 : n ≤ 6
  all_goals
    repeat' (first
    | (with_reducible apply W_seq_k; intro nx hnx)
    | (with_reducible first | apply W_block | apply W_scope)
    | (with_reducible refine W_prune 5 ?_; simp only [prb, Nat.reducePow, Nat.reduceDiv, Nat.reduceMod, Nat.reduceBEq]; with_reducible apply W_region_l)
    | ((first | (with_reducible apply WL_op; intro nx hnx) | with_reducible refine Ev_out ?_); try (simp (maxSteps := 2000000) (disch := omega) only [evb, evd, eve, constPV, seqK, blockK, scopeK, pbound, pelems, PV.mem?, PV.one, PV.cells, peqs, peq1, pkeys, List.set, Value.cells, ↓popG_eq, ↓pop.eq_1, ↓List.getElem?_map, ↓List.getElem?_cons_zero, ↓List.getElem?_cons_succ, Value.oneCell', Nat.reduceAdd, Nat.reduceMul, Nat.reduceSub, Nat.reduceLeDiff, Nat.reduceEqDiff, ↓reduceIte, ne_eq, reduceCtorEq, forall_const, exists_and_left, exists_eq_left', eq_self, Nat.reduceLT, Int.reduceLT, Int.reduceLE, Int.reduceToNat, Int.reduceAdd, Int.reduceSub, Int.reduceNeg, hnm, Tryd.tf3, Tryd.tf4, h1, h2]); repeat (refine And.intro (by omega) ?_))
    | ((with_reducible first | apply WL_nil | apply W_label | apply W_skip | apply W_exit | apply W_ret); try simp only [seqK, blockK, scopeK, ↓reduceIte, Nat.reduceEqDiff])
    | (with_reducible apply pguard_intro <;> (intro hc; (try simp only [hcb, reduceCtorEq, forall_const, ne_eq] at hc); first | (exfalso; omega) | (exfalso; exact hc trivial) | refine Ev_in ?_))
    | (with_reducible apply W_cond_k; intro _ _ ea eb; (simp only [condK, cob, opnd, constPV, Nat.reduceEqDiff, Nat.reduceLT, ↓reduceIte, hcb, reduceCtorEq, forall_const, ne_eq]); subst ea eb; first | (refine ⟨fun hc => ?_, fun hc => ?_⟩ <;> first | (exfalso; omega) | (exfalso; exact hc trivial) | skip) | skip)
    | (with_reducible apply hnx; clear hnx nx)
    | (with_reducible refine And.intro (by omega) ?_)
    | (with_reducible refine And.intro ?_ ?_)
    | (clear hnx nx; with_reducible apply hnx; clear hnx nx)
    | (clear hnx nx; clear hnx nx; with_reducible apply hnx; clear hnx nx))
    (refine hfin _ _ (Fin_ret1 rfl (Sub_nil _) ?_); simp only [List.getD_cons_zero, List.getD_cons_succ, fr_getD_cons, fr_getD_nil, Nat.reduceEqDiff, Nat.reduceLT, ↓reduceIte]; first | trivial | exact ⟨rfl, by trivial⟩ | (simp; done) | (simp; omega))
/-- The encoding of numbers. -/
def encI (l : List Int) : List UInt8 := encL intB l
theorem encI_len {l : List Int} (hv : ∀ n ∈ l, inR n) (h : l.length ≤ 4) : (encI l).length ≤ 45 := by
  have h0 := intB_len9 (n := l.length) ⟨by omega, by omega⟩
  have h1 : (l.flatMap intB).length ≤ l.length * 9 := by
    clear h h0
    induction l with
    | nil => simp
    | cons x l ih =>
      have := intB_len9 (hv x (by simp))
      have := ih fun n hn => hv n (by simp [hn])
      simp only [List.flatMap_cons, List.length_append, List.length_cons]
      omega
  simp only [encI, encL, List.length_append]
  omega
set_option maxRecDepth 100000 in
set_option maxHeartbeats 8000000 in
theorem ints_c (G : Globs) (l : List Int) (hv : ∀ n ∈ l, inR n) (h : l.length ≤ 4) : PCalls Tryd.prog G 48 [.list 1 (l.map (pint .i64))] [] (fun res H => res = pstr (encI l) ∧ H = []) := by
  have he := encI_len hv h
  have c := wints_c G l hv (by rw [← encI]; omega) (by omega)
  rw [← encI] at c
  have b1 := isByte_pb (encI l)
  have b2 := unb_pb (encI l)
  generalize encI l = e at *
  (refine PCalls_f Tryd.func48 rfl Tryd.ntmps48 Tryd.results48 (by simp) fun fin hfin => ?_; have hnm : True := trivial; simp (maxSteps := 2000000) (disch := omega) only [evb, evd, eve, constPV, seqK, blockK, scopeK, pbound, pelems, PV.mem?, PV.one, PV.cells, peqs, peq1, pkeys, List.set, Value.cells, ↓popG_eq, ↓pop.eq_1, ↓List.getElem?_map, ↓List.getElem?_cons_zero, ↓List.getElem?_cons_succ, Value.oneCell', Nat.reduceAdd, Nat.reduceMul, Nat.reduceSub, Nat.reduceLeDiff, Nat.reduceEqDiff, ↓reduceIte, ne_eq, reduceCtorEq, forall_const, exists_and_left, exists_eq_left', eq_self, Nat.reduceLT, Int.reduceLT, Int.reduceLE, Int.reduceToNat, Int.reduceAdd, Int.reduceSub, Int.reduceNeg, hnm, Tryd.tf3, Tryd.tf5, Tryd.tf9, Tryd.tf25, Tryd.tf52, Tryd.call60])
  repeat' (first
    | (with_reducible apply W_seq_k; intro nx hnx)
    | (with_reducible first | apply W_block | apply W_scope)
    | (with_reducible refine W_prune 5 ?_; simp only [prb, Nat.reducePow, Nat.reduceDiv, Nat.reduceMod, Nat.reduceBEq]; with_reducible apply W_region_l)
    | ((first | (with_reducible apply WL_op; intro nx hnx) | with_reducible refine Ev_out ?_ | (with_reducible refine pfresh_k hnm fun nm hnm => ?_; (try simp only [fmb] at hnm)) | (with_reducible refine pborn_mu hnm fun nm hnm => ?_; (try simp only [fmb] at hnm))); try (simp (maxSteps := 2000000) (disch := omega) only [evb, evd, eve, constPV, seqK, blockK, scopeK, pbound, pelems, PV.mem?, PV.one, PV.cells, peqs, peq1, pkeys, List.set, Value.cells, ↓popG_eq, ↓pop.eq_1, ↓List.getElem?_map, ↓List.getElem?_cons_zero, ↓List.getElem?_cons_succ, Value.oneCell', Nat.reduceAdd, Nat.reduceMul, Nat.reduceSub, Nat.reduceLeDiff, Nat.reduceEqDiff, ↓reduceIte, ne_eq, reduceCtorEq, forall_const, exists_and_left, exists_eq_left', eq_self, Nat.reduceLT, Int.reduceLT, Int.reduceLE, Int.reduceToNat, Int.reduceAdd, Int.reduceSub, Int.reduceNeg, hnm, Tryd.tf3, Tryd.tf5, Tryd.tf9, Tryd.tf25, Tryd.tf52, Tryd.call60, b1, b2]); repeat (refine And.intro (by omega) ?_))
    | ((with_reducible first | apply WL_nil | apply W_label | apply W_skip | apply W_exit | apply W_ret); try simp only [seqK, blockK, scopeK, ↓reduceIte, Nat.reduceEqDiff])
    | (with_reducible apply W_cond_k; intro _ _ ea eb; (simp only [condK, cob, opnd, constPV, Nat.reduceEqDiff, Nat.reduceLT, ↓reduceIte, hcb, reduceCtorEq, forall_const, ne_eq]); subst ea eb; first | (refine ⟨fun hc => ?_, fun hc => ?_⟩ <;> first | (exfalso; omega) | (exfalso; exact hc trivial) | skip) | skip)
    | (with_reducible apply hnx; clear hnx nx)
    | (with_reducible refine And.intro (by omega) ?_)
    | (with_reducible refine And.intro ?_ ?_)
    | (with_reducible refine pcall_k (c) ?_; rintro _ _ ⟨rfl, rfl⟩ -; refine Ev_in ?_)
    | (clear hnx nx; with_reducible apply hnx; clear hnx nx)
    | (clear hnx nx; clear hnx nx; with_reducible apply hnx; clear hnx nx))
  all_goals first
    | exact rfl
    | (refine hfin _ _ (Fin_ret1 rfl (Sub_nil _) ?_); simp only [List.getD_cons_zero, List.getD_cons_succ, fr_getD_cons, fr_getD_nil, Nat.reduceEqDiff, Nat.reduceLT, ↓reduceIte]; first | trivial | exact ⟨rfl, by trivial⟩ | (simp; done) | (simp; omega))
set_option maxRecDepth 100000 in
set_option maxHeartbeats 8000000 in
theorem rints2_c (G : Globs) (l : List Int) (hv : ∀ n ∈ l, inR n) (h : l.length ≤ 4) : PCalls Tryd.prog G 50 [.list 1 (l.map (pint .i64))] [] (fun res H => res = pstr (encI l) ∧ H = []) := by
  have he := encI_len hv h
  have c := rints_c G l hv (by rw [← encI]; omega) (by omega)
  rw [← encI] at c
  have b1 := isByte_pb (encI l)
  have b2 := unb_pb (encI l)
  generalize encI l = e at *
  (refine PCalls_f Tryd.func50 rfl Tryd.ntmps50 Tryd.results50 (by simp) fun fin hfin => ?_; have hnm : True := trivial; simp (maxSteps := 2000000) (disch := omega) only [evb, evd, eve, constPV, seqK, blockK, scopeK, pbound, pelems, PV.mem?, PV.one, PV.cells, peqs, peq1, pkeys, List.set, Value.cells, ↓popG_eq, ↓pop.eq_1, ↓List.getElem?_map, ↓List.getElem?_cons_zero, ↓List.getElem?_cons_succ, Value.oneCell', Nat.reduceAdd, Nat.reduceMul, Nat.reduceSub, Nat.reduceLeDiff, Nat.reduceEqDiff, ↓reduceIte, ne_eq, reduceCtorEq, forall_const, exists_and_left, exists_eq_left', eq_self, Nat.reduceLT, Int.reduceLT, Int.reduceLE, Int.reduceToNat, Int.reduceAdd, Int.reduceSub, Int.reduceNeg, hnm, Tryd.tf3, Tryd.tf5, Tryd.tf9, Tryd.tf25, Tryd.tf52, Tryd.call63])
  repeat' (first
    | (with_reducible apply W_seq_k; intro nx hnx)
    | (with_reducible first | apply W_block | apply W_scope)
    | (with_reducible refine W_prune 5 ?_; simp only [prb, Nat.reducePow, Nat.reduceDiv, Nat.reduceMod, Nat.reduceBEq]; with_reducible apply W_region_l)
    | ((first | (with_reducible apply WL_op; intro nx hnx) | with_reducible refine Ev_out ?_ | (with_reducible refine pfresh_k hnm fun nm hnm => ?_; (try simp only [fmb] at hnm)) | (with_reducible refine pborn_mu hnm fun nm hnm => ?_; (try simp only [fmb] at hnm))); try (simp (maxSteps := 2000000) (disch := omega) only [evb, evd, eve, constPV, seqK, blockK, scopeK, pbound, pelems, PV.mem?, PV.one, PV.cells, peqs, peq1, pkeys, List.set, Value.cells, ↓popG_eq, ↓pop.eq_1, ↓List.getElem?_map, ↓List.getElem?_cons_zero, ↓List.getElem?_cons_succ, Value.oneCell', Nat.reduceAdd, Nat.reduceMul, Nat.reduceSub, Nat.reduceLeDiff, Nat.reduceEqDiff, ↓reduceIte, ne_eq, reduceCtorEq, forall_const, exists_and_left, exists_eq_left', eq_self, Nat.reduceLT, Int.reduceLT, Int.reduceLE, Int.reduceToNat, Int.reduceAdd, Int.reduceSub, Int.reduceNeg, hnm, Tryd.tf3, Tryd.tf5, Tryd.tf9, Tryd.tf25, Tryd.tf52, Tryd.call63, b1, b2]); repeat (refine And.intro (by omega) ?_))
    | ((with_reducible first | apply WL_nil | apply W_label | apply W_skip | apply W_exit | apply W_ret); try simp only [seqK, blockK, scopeK, ↓reduceIte, Nat.reduceEqDiff])
    | (with_reducible apply W_cond_k; intro _ _ ea eb; (simp only [condK, cob, opnd, constPV, Nat.reduceEqDiff, Nat.reduceLT, ↓reduceIte, hcb, reduceCtorEq, forall_const, ne_eq]); subst ea eb; first | (refine ⟨fun hc => ?_, fun hc => ?_⟩ <;> first | (exfalso; omega) | (exfalso; exact hc trivial) | skip) | skip)
    | (with_reducible apply hnx; clear hnx nx)
    | (with_reducible refine And.intro (by omega) ?_)
    | (with_reducible refine And.intro ?_ ?_)
    | (with_reducible refine pcall_k (c) ?_; rintro _ _ ⟨rfl, rfl⟩ -; refine Ev_in ?_)
    | (clear hnx nx; with_reducible apply hnx; clear hnx nx)
    | (clear hnx nx; clear hnx nx; with_reducible apply hnx; clear hnx nx))
  all_goals first
    | exact rfl
    | (refine hfin _ _ (Fin_ret1 rfl (Sub_nil _) ?_); simp only [List.getD_cons_zero, List.getD_cons_succ, fr_getD_cons, fr_getD_nil, Nat.reduceEqDiff, Nat.reduceLT, ↓reduceIte]; first | trivial | exact ⟨rfl, by trivial⟩ | (simp; done) | (simp; omega))
end Go.PM

namespace Go.PM
open Go.Proofs
attribute [local irreducible] W PCalls pcall pcallI WL
theorem all_lt2 {p : List UInt8 → Prop} {a b : List UInt8} (h1 : p a) (h2 : p b) : ∀ x ∈ [a, b], p x := by
  intro x hx
  rcases List.mem_cons.1 hx with rfl | hx
  · exact h1
  · rcases List.mem_cons.1 hx with rfl | hx
    · exact h2
    · cases hx
/-- The end of a function whose result is a digest that lies in a cell. -/
theorem Fin_dig {x : Tmp} {n : Int} {f : List UInt8} {R : PV → Heap → Prop} {σ : PState} (hx : σ.frame.getD x .junk = .ptr n 0) (hl : look σ.heap n = some ⟨23, false, 0, f.map pbyte⟩) (hf : f.length = 16)
    (h3 : R (.agg (f.map pbyte)) []) : Fin Tryd.prog [.cell x 23] R .ret σ := by
  have hone := all_one_byte f
  have htk : List.take 16 (f.map pbyte) = f.map pbyte := List.take_of_length_le (by rw [List.length_map]; omega)
  refine Fin_cell (res := .agg (f.map pbyte)) Tryd.tf23 (n := n) (off := 0) (o := ⟨23, false, 0, f.map pbyte⟩) hx hl ?_ (Sub_nil _) h3
  simp [pload, hf, htk, hone]
/-- The parent of two nodes. -/
def nodeF (a b : List UInt8) : List UInt8 := ofH 2 [a, b]
set_option maxRecDepth 100000 in
set_option maxHeartbeats 8000000 in
theorem node_c (G : Globs) (hG : G 1 = .iptr (KS.map pw) 0) (a b : List UInt8) (ha : a.length = 16) (hb : b.length = 16) : PCalls Tryd.prog G 40 [.agg (a.map pbyte), .agg (b.map pbyte)] [] (fun res H => res = .agg ((nodeF a b).map pbyte) ∧ H = []) := by
  have hl1 : (a.map pbyte).length = 16 := by rw [List.length_map, ha]
  have hl2 : (b.map pbyte).length = 16 := by rw [List.length_map, hb]
  have o1 := all_one_byte a
  have o2 := all_one_byte b
  have a1 := isByte_pb a
  have a2 := unb_pb a
  have b1 := isByte_pb b
  have b2 := unb_pb b
  have c := hof_c G hG 2 [a, b] (all_lt2 (by omega) (by omega)) (by simp)
  simp only [List.map_cons, List.map_nil] at c
  have hn : ofH 2 [a, b] = nodeF a b := rfl
  have hol := ofH_len 2 [a, b]
  rw [hn] at c hol
  have hone := all_one_byte (nodeF a b)
  have t1 : List.take 16 (a.map pbyte) = a.map pbyte := List.take_of_length_le (by omega)
  have t2 : List.take 16 (b.map pbyte) = b.map pbyte := List.take_of_length_le (by omega)
  have hol2 : ((nodeF a b).map pbyte).length = 16 := by rw [List.length_map, hol]
  have t3 : List.take 16 ((nodeF a b).map pbyte) = (nodeF a b).map pbyte := List.take_of_length_le (by omega)
  generalize nodeF a b = f at *
  (refine PCalls_f Tryd.func40 rfl Tryd.ntmps40 Tryd.results40 (by simp) fun fin hfin => ?_; have hnm : True := trivial; simp (maxSteps := 2000000) (disch := omega) only [evb, evd, eve, constPV, seqK, blockK, scopeK, pbound, pelems, PV.mem?, PV.one, PV.cells, peqs, peq1, pkeys, List.set, Value.cells, ↓popG_eq, ↓pop.eq_1, ↓List.getElem?_map, ↓List.getElem?_cons_zero, ↓List.getElem?_cons_succ, Value.oneCell', Nat.reduceAdd, Nat.reduceMul, Nat.reduceSub, Nat.reduceLeDiff, Nat.reduceEqDiff, ↓reduceIte, ne_eq, reduceCtorEq, forall_const, exists_and_left, exists_eq_left', eq_self, Nat.reduceLT, Int.reduceLT, Int.reduceLE, Int.reduceToNat, Int.reduceAdd, Int.reduceSub, Int.reduceNeg, hnm, Tryd.tf0, Tryd.tf2, Tryd.tf3, Tryd.tf5, Tryd.tf9, Tryd.tf23, Tryd.tf52, Tryd.tf66, Tryd.call34])
  repeat' (first
    | (with_reducible apply W_seq_k; intro nx hnx)
    | (with_reducible first | apply W_block | apply W_scope)
    | (with_reducible refine W_prune 31 ?_; simp only [prb, Nat.reducePow, Nat.reduceDiv, Nat.reduceMod, Nat.reduceBEq]; first | (with_reducible apply W_region_l) | with_reducible refine W_region_draw (id := 1) 3 (.op 0 true (.op 1 true (.op 2 true (.op 3 true (.op 4 false (.op 5 false (.op 6 false (.done)))))))) (by kernel_rfl) ?_)
    | (with_reducible refine WL_born (by simp) rfl (by simp) ?_; simp only [elemsOf, nl, List.map_cons, List.map_nil, Nat.reduceEqDiff, ↓reduceIte, List.take_succ_cons, List.take_zero, List.range_succ, List.range_zero, List.nil_append, List.cons_append, List.map_append, List.drop_succ_cons, List.drop_zero, Nat.reduceMul, Nat.zero_mul, Nat.one_mul, Nat.reduceAdd])
    | (with_reducible refine WL_bornH (by simp) (by simp) ?_ ?_ ?_; (· simp [frz, frz1, hnm]); (· simp [frz1, hnm, PV.one, Value.oneCell']); simp only [elemsOf, nl, List.map_cons, List.map_nil, Nat.reduceEqDiff, ↓reduceIte, List.take_succ_cons, List.take_zero, List.range_succ, List.range_zero, List.nil_append, List.cons_append, List.map_append, List.drop_succ_cons, List.drop_zero, Nat.reduceMul, Nat.zero_mul, Nat.one_mul, Nat.reduceAdd])
    | ((first | (with_reducible apply WL_op; intro nx hnx) | with_reducible refine Ev_out ?_ | (with_reducible apply popsD_op; intro nx hnx) | (with_reducible refine popsD_alt ?_ ?_; intro nx hnx) | (with_reducible refine pfresh_k hnm fun nm hnm => ?_; (try simp only [fmb] at hnm)) | (with_reducible refine pborn_im ?_; simp only [elemsOf, nl, List.map_cons, List.map_nil, Nat.reduceEqDiff, ↓reduceIte, List.take_succ_cons, List.take_zero, List.range_succ, List.range_zero, List.nil_append, List.cons_append, List.map_append, List.drop_succ_cons, List.drop_zero, Nat.reduceMul, Nat.zero_mul, Nat.one_mul, Nat.reduceAdd])); try (simp (maxSteps := 2000000) (disch := omega) only [evb, evd, eve, constPV, seqK, blockK, scopeK, pbound, pelems, PV.mem?, PV.one, PV.cells, peqs, peq1, pkeys, List.set, Value.cells, ↓popG_eq, ↓pop.eq_1, ↓List.getElem?_map, ↓List.getElem?_cons_zero, ↓List.getElem?_cons_succ, Value.oneCell', Nat.reduceAdd, Nat.reduceMul, Nat.reduceSub, Nat.reduceLeDiff, Nat.reduceEqDiff, ↓reduceIte, ne_eq, reduceCtorEq, forall_const, exists_and_left, exists_eq_left', eq_self, Nat.reduceLT, Int.reduceLT, Int.reduceLE, Int.reduceToNat, Int.reduceAdd, Int.reduceSub, Int.reduceNeg, hnm, Tryd.tf0, Tryd.tf2, Tryd.tf3, Tryd.tf5, Tryd.tf9, Tryd.tf23, Tryd.tf52, Tryd.tf66, Tryd.call34, hl1, hl2, o1, o2, a1, a2, b1, b2, t1, t2, t3, hol2, hone]); repeat (refine And.intro (by omega) ?_))
    | ((with_reducible first | apply WL_nil | apply W_label | apply W_skip | apply W_exit | apply W_ret | apply popsD_done); try simp only [seqK, blockK, scopeK, ↓reduceIte, Nat.reduceEqDiff])
    | with_reducible exact popsD_stop
    | (with_reducible apply W_cond_k; intro _ _ ea eb; (simp only [condK, cob, opnd, constPV, Nat.reduceEqDiff, Nat.reduceLT, ↓reduceIte, hcb, reduceCtorEq, forall_const, ne_eq]); subst ea eb; first | (refine ⟨fun hc => ?_, fun hc => ?_⟩ <;> first | (exfalso; omega) | (exfalso; exact hc trivial) | skip) | skip)
    | (with_reducible apply hnx; clear hnx nx)
    | (with_reducible refine And.intro (by omega) ?_)
    | (with_reducible refine And.intro ?_ ?_)
    | (with_reducible refine pcall_k (c) ?_; rintro _ _ ⟨rfl, rfl⟩ -; refine Ev_in ?_)
    | (clear hnx nx; with_reducible apply hnx; clear hnx nx)
    | (clear hnx nx; clear hnx nx; with_reducible apply hnx; clear hnx nx))
  all_goals first
    | exact rfl
    | (refine hfin _ _ ?_
       exact Fin_dig (n := nm) (by simp only [fr_getD_cons, Nat.reduceEqDiff, Nat.reduceLT, ↓reduceIte]) (by simp [look, hnm]) hol ⟨rfl, rfl⟩)
set_option maxRecDepth 100000 in
set_option maxHeartbeats 8000000 in
theorem rnode_c (G : Globs) (hG : G 0 = .iptr (KS.map pw) 0) (a b : List UInt8) (ha : a.length = 16) (hb : b.length = 16) : PCalls Tryd.prog G 43 [.agg (a.map pbyte), .agg (b.map pbyte)] [] (fun res H => res = .agg ((nodeF a b).map pbyte) ∧ H = []) := by
  have hl1 : (a.map pbyte).length = 16 := by rw [List.length_map, ha]
  have hl2 : (b.map pbyte).length = 16 := by rw [List.length_map, hb]
  have o1 := all_one_byte a
  have o2 := all_one_byte b
  have c := rof_c G hG 2 [a, b] (all_lt2 (by omega) (by omega)) (by simp)
  simp only [List.map_cons, List.map_nil] at c
  have hn : ofH 2 [a, b] = nodeF a b := rfl
  have hol := ofH_len 2 [a, b]
  rw [hn] at c hol
  have hone := all_one_byte (nodeF a b)
  have t1 : List.take 16 (a.map pbyte) = a.map pbyte := List.take_of_length_le (by omega)
  have t2 : List.take 16 (b.map pbyte) = b.map pbyte := List.take_of_length_le (by omega)
  have hol2 : ((nodeF a b).map pbyte).length = 16 := by rw [List.length_map, hol]
  have t3 : List.take 16 ((nodeF a b).map pbyte) = (nodeF a b).map pbyte := List.take_of_length_le (by omega)
  generalize nodeF a b = f at *
  (refine PCalls_f Tryd.func43 rfl Tryd.ntmps43 Tryd.results43 (by simp) fun fin hfin => ?_; have hnm : True := trivial; simp (maxSteps := 2000000) (disch := omega) only [evb, evd, eve, constPV, seqK, blockK, scopeK, pbound, pelems, PV.mem?, PV.one, PV.cells, peqs, peq1, pkeys, List.set, Value.cells, ↓popG_eq, ↓pop.eq_1, ↓List.getElem?_map, ↓List.getElem?_cons_zero, ↓List.getElem?_cons_succ, Value.oneCell', Nat.reduceAdd, Nat.reduceMul, Nat.reduceSub, Nat.reduceLeDiff, Nat.reduceEqDiff, ↓reduceIte, ne_eq, reduceCtorEq, forall_const, exists_and_left, exists_eq_left', eq_self, Nat.reduceLT, Int.reduceLT, Int.reduceLE, Int.reduceToNat, Int.reduceAdd, Int.reduceSub, Int.reduceNeg, hnm, Tryd.tf0, Tryd.tf2, Tryd.tf3, Tryd.tf5, Tryd.tf9, Tryd.tf23, Tryd.tf66, Tryd.call31, Tryd.call35])
  repeat' (first
    | (with_reducible apply W_seq_k; intro nx hnx)
    | (with_reducible first | apply W_block | apply W_scope)
    | (with_reducible refine W_prune 31 ?_; simp only [prb, Nat.reducePow, Nat.reduceDiv, Nat.reduceMod, Nat.reduceBEq]; first | (with_reducible apply W_region_l) | with_reducible refine W_region_draw (id := 1) 3 (.op 0 true (.op 2 true (.op 1 true (.op 3 false (.op 4 false (.op 5 false (.op 6 false (.done)))))))) (by kernel_rfl) ?_)
    | (with_reducible refine WL_born (by simp) rfl (by simp) ?_; simp only [elemsOf, nl, List.map_cons, List.map_nil, Nat.reduceEqDiff, ↓reduceIte, List.take_succ_cons, List.take_zero, List.range_succ, List.range_zero, List.nil_append, List.cons_append, List.map_append, List.drop_succ_cons, List.drop_zero, Nat.reduceMul, Nat.zero_mul, Nat.one_mul, Nat.reduceAdd])
    | (with_reducible refine WL_bornH (by simp) (by simp) ?_ ?_ ?_; (· simp [frz, frz1, hnm]); (· simp [frz1, hnm, PV.one, Value.oneCell']); simp only [elemsOf, nl, List.map_cons, List.map_nil, Nat.reduceEqDiff, ↓reduceIte, List.take_succ_cons, List.take_zero, List.range_succ, List.range_zero, List.nil_append, List.cons_append, List.map_append, List.drop_succ_cons, List.drop_zero, Nat.reduceMul, Nat.zero_mul, Nat.one_mul, Nat.reduceAdd])
    | ((first | (with_reducible apply WL_op; intro nx hnx) | with_reducible refine Ev_out ?_ | (with_reducible apply popsD_op; intro nx hnx) | (with_reducible refine popsD_alt ?_ ?_; intro nx hnx) | (with_reducible refine pfresh_k hnm fun nm hnm => ?_; (try simp only [fmb] at hnm)) | (with_reducible refine pborn_im ?_; simp only [elemsOf, nl, List.map_cons, List.map_nil, Nat.reduceEqDiff, ↓reduceIte, List.take_succ_cons, List.take_zero, List.range_succ, List.range_zero, List.nil_append, List.cons_append, List.map_append, List.drop_succ_cons, List.drop_zero, Nat.reduceMul, Nat.zero_mul, Nat.one_mul, Nat.reduceAdd])); try (simp (maxSteps := 2000000) (disch := omega) only [evb, evd, eve, constPV, seqK, blockK, scopeK, pbound, pelems, PV.mem?, PV.one, PV.cells, peqs, peq1, pkeys, List.set, Value.cells, ↓popG_eq, ↓pop.eq_1, ↓List.getElem?_map, ↓List.getElem?_cons_zero, ↓List.getElem?_cons_succ, Value.oneCell', Nat.reduceAdd, Nat.reduceMul, Nat.reduceSub, Nat.reduceLeDiff, Nat.reduceEqDiff, ↓reduceIte, ne_eq, reduceCtorEq, forall_const, exists_and_left, exists_eq_left', eq_self, Nat.reduceLT, Int.reduceLT, Int.reduceLE, Int.reduceToNat, Int.reduceAdd, Int.reduceSub, Int.reduceNeg, hnm, Tryd.tf0, Tryd.tf2, Tryd.tf3, Tryd.tf5, Tryd.tf9, Tryd.tf23, Tryd.tf66, Tryd.call31, Tryd.call35, hl1, hl2, o1, o2, t1, t2, t3, hol2, hone]); repeat (refine And.intro (by omega) ?_))
    | ((with_reducible first | apply WL_nil | apply W_label | apply W_skip | apply W_exit | apply W_ret | apply popsD_done); try simp only [seqK, blockK, scopeK, ↓reduceIte, Nat.reduceEqDiff])
    | with_reducible exact popsD_stop
    | (with_reducible apply W_cond_k; intro _ _ ea eb; (simp only [condK, cob, opnd, constPV, Nat.reduceEqDiff, Nat.reduceLT, ↓reduceIte, hcb, reduceCtorEq, forall_const, ne_eq]); subst ea eb; first | (refine ⟨fun hc => ?_, fun hc => ?_⟩ <;> first | (exfalso; omega) | (exfalso; exact hc trivial) | skip) | skip)
    | (with_reducible apply hnx; clear hnx nx)
    | (with_reducible refine And.intro (by omega) ?_)
    | (with_reducible refine And.intro ?_ ?_)
    | (with_reducible refine pcall_k (c) ?_; rintro _ _ ⟨rfl, rfl⟩ -; refine Ev_in ?_)
    | (with_reducible refine pcall_k (text_c G a ha) ?_; rintro _ _ ⟨rfl, rfl⟩ -; refine Ev_in ?_)
    | (with_reducible refine pcall_k (text_c G b hb) ?_; rintro _ _ ⟨rfl, rfl⟩ -; refine Ev_in ?_)
    | (clear hnx nx; with_reducible apply hnx; clear hnx nx)
    | (clear hnx nx; clear hnx nx; with_reducible apply hnx; clear hnx nx))
  all_goals first
    | exact rfl
    | (refine hfin _ _ ?_
       exact Fin_dig (n := nm) (by simp only [fr_getD_cons, Nat.reduceEqDiff, Nat.reduceLT, ↓reduceIte]) (by simp [look, hnm]) hol ⟨rfl, rfl⟩)
/-- The value of a chain at height 0. -/
def startF (seed : List UInt8) (i c : Int) : List UInt8 := (mac seed (99 :: 104 :: 97 :: 105 :: 110 :: encI [i, c])).take 16
theorem mac_len (k t : List UInt8) : (mac k t).length = 32 := sha_len _
theorem startF_len (seed : List UInt8) (i c : Int) : (startF seed i c).length = 16 := by
  rw [startF, List.length_take, mac_len]
  rfl
set_option maxRecDepth 100000 in
set_option maxHeartbeats 8000000 in
theorem start_c (G : Globs) (hG : G 1 = .iptr (KS.map pw) 0) (seed : List UInt8) (hs : seed.length ≤ 4000) (i c : Int) (hi : inR i) (hc : inR c) : PCalls Tryd.prog G 28 [pstr seed, pint .i64 i, pint .i64 c] [] (fun res H => res = .agg ((startF seed i c).map pbyte) ∧ H = []) := by
  have hv : ∀ n ∈ [i, c], inR n := by
    intro n hn
    rcases List.mem_cons.1 hn with rfl | hn
    · exact hi
    · rw [List.mem_singleton.1 hn]
      exact hc
  have c1 := ints_c G [i, c] hv (by simp)
  simp only [List.map_cons, List.map_nil] at c1
  have hel := encI_len hv (by simp)
  have hm := mac_len seed (99 :: 104 :: 97 :: 105 :: 110 :: encI [i, c])
  have c2 := mac_c G hG seed (99 :: 104 :: 97 :: 105 :: 110 :: encI [i, c]) (by omega) (by simp; omega)
  have hsl := startF_len seed i c
  have hst : (mac seed (99 :: 104 :: 97 :: 105 :: 110 :: encI [i, c])).take 16 = startF seed i c := rfl
  generalize startF seed i c = f at *
  generalize encI [i, c] = e at *
  generalize mac seed (99 :: 104 :: 97 :: 105 :: 110 :: e) = m at *
  have hone := all_one_byte f
  have hl : (f.map pbyte).length = 16 := by rw [List.length_map, hsl]
  have t3 : List.take 16 (f.map pbyte) = f.map pbyte := List.take_of_length_le (by omega)
  (refine PCalls_f Tryd.func28 rfl Tryd.ntmps28 Tryd.results28 (by simp) fun fin hfin => ?_; have hnm : True := trivial; simp (maxSteps := 2000000) (disch := omega) only [evb, evd, eve, constPV, seqK, blockK, scopeK, pbound, pelems, PV.mem?, PV.one, PV.cells, peqs, peq1, pkeys, List.set, Value.cells, ↓popG_eq, ↓pop.eq_1, ↓List.getElem?_map, ↓List.getElem?_cons_zero, ↓List.getElem?_cons_succ, Value.oneCell', Nat.reduceAdd, Nat.reduceMul, Nat.reduceSub, Nat.reduceLeDiff, Nat.reduceEqDiff, ↓reduceIte, ne_eq, reduceCtorEq, forall_const, exists_and_left, exists_eq_left', eq_self, Nat.reduceLT, Int.reduceLT, Int.reduceLE, Int.reduceToNat, Int.reduceAdd, Int.reduceSub, Int.reduceNeg, hnm, Tryd.tf0, Tryd.tf2, Tryd.tf3, Tryd.tf5, Tryd.tf9, Tryd.tf23, Tryd.tf25, Tryd.tf52, Tryd.call48, Tryd.call49])
  have hbf : bytes f = f.map pbyte := rfl
  have hff := flat_pb f
  repeat' (first
    | (with_reducible apply W_seq_k; intro nx hnx)
    | (with_reducible first | apply W_block | apply W_scope)
    | (with_reducible refine W_prune 71 ?_; simp only [prb, Nat.reducePow, Nat.reduceDiv, Nat.reduceMod, Nat.reduceBEq]; with_reducible apply W_region_l)
    | (with_reducible refine WL_born (by simp) rfl (by simp) ?_; simp only [elemsOf, nl, List.map_cons, List.map_nil, Nat.reduceEqDiff, ↓reduceIte, List.take_succ_cons, List.take_zero, List.range_succ, List.range_zero, List.nil_append, List.cons_append, List.map_append, List.drop_succ_cons, List.drop_zero, Nat.reduceMul, Nat.zero_mul, Nat.one_mul, Nat.reduceAdd])
    | (with_reducible refine WL_bornH (by simp) (by simp) ?_ ?_ ?_; (· simp [frz, frz1, hnm]); (· simp [frz1, hnm, PV.one, Value.oneCell']); simp only [elemsOf, nl, List.map_cons, List.map_nil, Nat.reduceEqDiff, ↓reduceIte, List.take_succ_cons, List.take_zero, List.range_succ, List.range_zero, List.nil_append, List.cons_append, List.map_append, List.drop_succ_cons, List.drop_zero, Nat.reduceMul, Nat.zero_mul, Nat.one_mul, Nat.reduceAdd])
    | ((first | (with_reducible apply WL_op; intro nx hnx) | with_reducible refine Ev_out ?_ | (with_reducible refine pfresh_k hnm fun nm hnm => ?_; (try simp only [fmb] at hnm)) | (with_reducible refine pborn_im ?_; simp only [elemsOf, nl, List.map_cons, List.map_nil, Nat.reduceEqDiff, ↓reduceIte, List.take_succ_cons, List.take_zero, List.range_succ, List.range_zero, List.nil_append, List.cons_append, List.map_append, List.drop_succ_cons, List.drop_zero, Nat.reduceMul, Nat.zero_mul, Nat.one_mul, Nat.reduceAdd])); try (simp (maxSteps := 2000000) (disch := omega) only [evb, evd, eve, constPV, seqK, blockK, scopeK, pbound, pelems, PV.mem?, PV.one, PV.cells, peqs, peq1, pkeys, List.set, Value.cells, ↓popG_eq, ↓pop.eq_1, ↓List.getElem?_map, ↓List.getElem?_cons_zero, ↓List.getElem?_cons_succ, Value.oneCell', Nat.reduceAdd, Nat.reduceMul, Nat.reduceSub, Nat.reduceLeDiff, Nat.reduceEqDiff, ↓reduceIte, ne_eq, reduceCtorEq, forall_const, exists_and_left, exists_eq_left', eq_self, Nat.reduceLT, Int.reduceLT, Int.reduceLE, Int.reduceToNat, Int.reduceAdd, Int.reduceSub, Int.reduceNeg, hnm, Tryd.tf0, Tryd.tf2, Tryd.tf3, Tryd.tf5, Tryd.tf9, Tryd.tf23, Tryd.tf25, Tryd.tf52, Tryd.call48, Tryd.call49, hone, hl, t3, hst, hm, hbf, hff]); repeat (refine And.intro (by omega) ?_))
    | ((with_reducible first | apply WL_nil | apply W_label | apply W_skip | apply W_exit | apply W_ret); try simp only [seqK, blockK, scopeK, ↓reduceIte, Nat.reduceEqDiff])
    | (with_reducible apply W_cond_k; intro _ _ ea eb; (simp only [condK, cob, opnd, constPV, Nat.reduceEqDiff, Nat.reduceLT, ↓reduceIte, hcb, reduceCtorEq, forall_const, ne_eq]); subst ea eb; first | (refine ⟨fun hc => ?_, fun hc => ?_⟩ <;> first | (exfalso; omega) | (exfalso; exact hc trivial) | skip) | skip)
    | (with_reducible apply hnx; clear hnx nx)
    | (with_reducible refine And.intro (by omega) ?_)
    | (with_reducible refine And.intro ?_ ?_)
    | (with_reducible refine pcall_k (c1) ?_; rintro _ _ ⟨rfl, rfl⟩ -; refine Ev_in ?_)
    | (with_reducible refine pcall_k (c2) ?_; rintro _ _ ⟨rfl, rfl⟩ -; refine Ev_in ?_)
    | (clear hnx nx; with_reducible apply hnx; clear hnx nx)
    | (clear hnx nx; clear hnx nx; with_reducible apply hnx; clear hnx nx))
  all_goals first
    | exact rfl
    | (refine hfin _ _ ?_
       exact Fin_dig (n := nm) (by simp only [fr_getD_cons, Nat.reduceEqDiff, Nat.reduceLT, ↓reduceIte]) (by simp [look, hnm]) hsl ⟨rfl, rfl⟩)
end Go.PM

namespace Go.PM
open Go.Proofs
attribute [local irreducible] W PCalls pcall pcallI WL
/-- One step of a chain. -/
def stepC (i c t : Int) (v : List UInt8) : List UInt8 := ofH 8 [encI [i, c, t], v]
/-- Some steps of a chain. -/
def advF (i c : Int) : Int → Nat → List UInt8 → List UInt8
  | _, 0, v => v
  | t, n + 1, v => advF i c (t + 1) n (stepC i c t v)
theorem stepC_len (i c t : Int) (v : List UInt8) : (stepC i c t v).length = 16 := ofH_len _ _
theorem advF_len (i c : Int) : ∀ (n : Nat) (t : Int) (v : List UInt8), v.length = 16 → (advF i c t n v).length = 16
  | 0, _, _, h => h
  | n + 1, t, v, _ => advF_len i c n (t + 1) _ (stepC_len i c t v)
theorem advF_lt (i c : Int) {t to : Int} (v : List UInt8) (h : t < to) : advF i c t (to - t).toNat v = advF i c (t + 1) (to - (t + 1)).toNat (stepC i c t v) := by
  obtain ⟨n, hn⟩ : ∃ n, (to - t).toNat = n + 1 := ⟨(to - t).toNat - 1, by omega⟩
  rw [hn, advF, show (to - (t + 1)).toNat = n by omega]
theorem advF_ge (i c : Int) {t to : Int} (v : List UInt8) (h : ¬ t < to) : advF i c t (to - t).toNat v = v := by
  rw [show (to - t).toNat = 0 by omega, advF]
theorem inR3 {a b c : Int} (h1 : inR a) (h2 : inR b) (h3 : inR c) : ∀ n ∈ [a, b, c], inR n := by
  intro n hn
  rcases List.mem_cons.1 hn with rfl | hn
  · exact h1
  · rcases List.mem_cons.1 hn with rfl | hn
    · exact h2
    · rw [List.mem_singleton.1 hn]
      exact h3
set_option maxRecDepth 100000 in
set_option maxHeartbeats 8000000 in
theorem adv_c (G : Globs) (hG : G 1 = .iptr (KS.map pw) 0) (i c t0 to : Int) (v0 : List UInt8) (hi : inR i) (hc : inR c) (h1 : 0 ≤ t0) (h2 : t0 ≤ 100) (h3 : 0 ≤ to) (h4 : to ≤ 100) (hv0 : v0.length = 16) :
    PCalls Tryd.prog G 27 [pint .i64 i, pint .i64 c, pint .i64 t0, pint .i64 to, .agg (v0.map pbyte)] [] (fun res H => res = .agg ((advF i c t0 (to - t0).toNat v0).map pbyte) ∧ H = []) := by
  have hFl := advF_len i c (to - t0).toNat t0 v0 hv0
  generalize hF : advF i c t0 (to - t0).toNat v0 = F at *
  have hl0 : (v0.map pbyte).length = 16 := by rw [List.length_map, hv0]
  have ho0 := all_one_byte v0
  obtain ⟨Z, hZ⟩ : ∃ Z, Z = List.replicate 16 (pint .u8 0) := ⟨_, rfl⟩
  have hZ2 : [pint .u8 0, pint .u8 0, pint .u8 0, pint .u8 0, pint .u8 0, pint .u8 0, pint .u8 0, pint .u8 0, pint .u8 0, pint .u8 0, pint .u8 0, pint .u8 0, pint .u8 0, pint .u8 0, pint .u8 0, pint .u8 0] = Z := by rw [hZ]; rfl
  have hZl : Z.length = 16 := by rw [hZ]; rfl
  have hZd : List.drop 16 Z = [] := List.drop_of_length_le (by omega)
  (refine PCalls_f Tryd.func27 rfl Tryd.ntmps27 Tryd.results27 (by simp) fun fin hfin => ?_; have hnm : True := trivial; simp (maxSteps := 2000000) (disch := omega) only [evb, evd, eve, constPV, seqK, blockK, scopeK, pbound, pelems, PV.mem?, PV.one, PV.cells, peqs, peq1, pkeys, List.set, Value.cells, ↓popG_eq, ↓pop.eq_1, ↓List.getElem?_map, ↓List.getElem?_cons_zero, ↓List.getElem?_cons_succ, Value.oneCell', Nat.reduceAdd, Nat.reduceMul, Nat.reduceSub, Nat.reduceLeDiff, Nat.reduceEqDiff, ↓reduceIte, ne_eq, reduceCtorEq, forall_const, exists_and_left, exists_eq_left', eq_self, Nat.reduceLT, Int.reduceLT, Int.reduceLE, Int.reduceToNat, Int.reduceAdd, Int.reduceSub, Int.reduceNeg, hnm, Tryd.tf0, Tryd.tf2, Tryd.tf3, Tryd.tf4, Tryd.tf5, Tryd.tf9, Tryd.tf23, Tryd.tf25, Tryd.tf52, Tryd.tf66, Tryd.call34, Tryd.call48])
  repeat' (first
    | (with_reducible apply W_seq_k; intro nx hnx)
    | (with_reducible first | apply W_block | apply W_scope)
    | (with_reducible refine W_prune 3615 ?_; simp only [prb, Nat.reducePow, Nat.reduceDiv, Nat.reduceMod, Nat.reduceBEq]; first | (with_reducible apply W_region_l) | with_reducible refine W_region_draw (id := 4) 3 (.op 0 true (.op 1 true (.op 2 true (.op 5 true (.op 6 true (.op 3 true (.op 4 true (.op 7 false (.op 8 false (.op 9 false (.done))))))))))) (by kernel_rfl) ?_)
    | ((first | (with_reducible apply WL_op; intro nx hnx) | with_reducible refine Ev_out ?_ | (with_reducible apply popsD_op; intro nx hnx) | (with_reducible refine popsD_alt ?_ ?_; intro nx hnx) | (with_reducible refine pfresh_k hnm fun nm hnm => ?_; (try simp only [fmb] at hnm)) | (with_reducible refine pborn_mu hnm fun nm hnm => ?_; (try simp only [fmb] at hnm))); try (simp (maxSteps := 2000000) (disch := omega) only [evb, evd, eve, constPV, seqK, blockK, scopeK, pbound, pelems, PV.mem?, PV.one, PV.cells, peqs, peq1, pkeys, List.set, Value.cells, ↓popG_eq, ↓pop.eq_1, ↓List.getElem?_map, ↓List.getElem?_cons_zero, ↓List.getElem?_cons_succ, Value.oneCell', Nat.reduceAdd, Nat.reduceMul, Nat.reduceSub, Nat.reduceLeDiff, Nat.reduceEqDiff, ↓reduceIte, ne_eq, reduceCtorEq, forall_const, exists_and_left, exists_eq_left', eq_self, Nat.reduceLT, Int.reduceLT, Int.reduceLE, Int.reduceToNat, Int.reduceAdd, Int.reduceSub, Int.reduceNeg, hnm, Tryd.tf0, Tryd.tf2, Tryd.tf3, Tryd.tf4, Tryd.tf5, Tryd.tf9, Tryd.tf23, Tryd.tf25, Tryd.tf52, Tryd.tf66, Tryd.call34, Tryd.call48, hl0, ho0]); repeat (refine And.intro (by omega) ?_))
    | ((with_reducible first | apply WL_nil | apply W_label | apply W_skip | apply W_exit | apply W_ret | apply popsD_done); try simp only [seqK, blockK, scopeK, ↓reduceIte, Nat.reduceEqDiff])
    | with_reducible exact popsD_stop
    | (with_reducible apply W_cond_k; intro _ _ ea eb; (simp only [condK, cob, opnd, constPV, Nat.reduceEqDiff, Nat.reduceLT, ↓reduceIte, hcb, reduceCtorEq, forall_const, ne_eq]); subst ea eb; first | (refine ⟨fun hc => ?_, fun hc => ?_⟩ <;> first | (exfalso; omega) | (exfalso; exact hc trivial) | skip) | skip)
    | (with_reducible apply hnx; clear hnx nx)
    | (with_reducible refine And.intro (by omega) ?_)
    | (with_reducible refine And.intro ?_ ?_)
    | (clear hnx nx; with_reducible apply hnx; clear hnx nx)
    | (clear hnx nx; clear hnx nx; with_reducible apply hnx; clear hnx nx))
  obtain ⟨NB, hNB⟩ : ∃ N, N = nm := ⟨_, rfl⟩
  subst hNB
  obtain ⟨NA, hNA⟩ : ∃ N, N = nm := ⟨_, rfl⟩
  subst hNA
  refine W_loop_k (fun z τ => ∃ (t : Int) (v : List UInt8), 0 ≤ t ∧ t ≤ 100 ∧ z = (to - t).toNat ∧ v.length = 16 ∧ advF i c t (to - t).toNat v = F ∧
      τ = ⟨fr 28 [(11, pint .i64 t), (0, pint .i64 i), (1, pint .i64 c), (3, pint .i64 to), (9, .ptr NA 0), (10, .ptr NB 0)], [(NB, ⟨23, false, 0, Z⟩), (NA, ⟨23, false, 0, v.map pbyte⟩)]⟩) (to - t0).toNat
    ⟨fr 28 [(11, pint .i64 t0), (0, pint .i64 i), (1, pint .i64 c), (3, pint .i64 to), (9, .ptr NA 0), (10, .ptr NB 0)], [(NB, ⟨23, false, 0, Z⟩), (NA, ⟨23, false, 0, v0.map pbyte⟩)]⟩ (by
    rw [← hZ2]
    refine Wk_fr (by simp only [wkb, Nat.reduceEqDiff, Nat.reduceLT, ↓reduceIte]) ?_
    exact Sub_refl (by simp [names, hnm])) ⟨t0, v0, h1, h2, rfl, hv0, hF, rfl⟩ ?_
  clear hF hl0 ho0 hv0
  rintro z τ ⟨t, v, t1, t2, rfl, hv, hF, rfl⟩ lp hlp
  have hl := hv
  rw [← List.length_map (f := pbyte)] at hl
  have ho := all_one_byte v
  have htk : List.take 16 (v.map pbyte) = v.map pbyte := List.take_of_length_le (by omega)
  have hdr : List.drop 16 (v.map pbyte) = [] := List.drop_of_length_le (by omega)
  by_cases hlt : t < to
  · rw [advF_lt i c v hlt] at hF
    have c1 := ints_c G [i, c, t] (inR3 hi hc ⟨by omega, by omega⟩) (by simp)
    have hel := encI_len (inR3 hi hc (show inR t from ⟨by omega, by omega⟩)) (by simp)
    have c2 := hof_c G hG 8 [encI [i, c, t], v] (all_lt2 (by omega) (by omega)) (by simp)
    have hsl := stepC_len i c t v
    rw [show ofH 8 [encI [i, c, t], v] = stepC i c t v from rfl] at c2
    simp only [List.map_cons, List.map_nil] at c1 c2
    generalize stepC i c t v = s at *
    generalize encI [i, c, t] = e at *
    have b1 := isByte_pb v
    have b2 := unb_pb v
    have hsl2 : (s.map pbyte).length = 16 := by rw [List.length_map, hsl]
    have hso := all_one_byte s
    have hst : List.take 16 (s.map pbyte) = s.map pbyte := List.take_of_length_le (by omega)
    repeat' (first
    | (with_reducible apply W_seq_k; intro nx hnx)
    | (with_reducible first | apply W_block | apply W_scope)
    | (with_reducible refine W_prune 3615 ?_; simp only [prb, Nat.reducePow, Nat.reduceDiv, Nat.reduceMod, Nat.reduceBEq]; first | (with_reducible apply W_region_l) | with_reducible refine W_region_draw (id := 4) 3 (.op 0 true (.op 1 true (.op 2 true (.op 5 true (.op 6 true (.op 3 true (.op 4 true (.op 7 false (.op 8 false (.op 9 false (.done))))))))))) (by kernel_rfl) ?_)
    | (with_reducible refine WL_born (by simp) rfl (by simp) ?_; simp only [elemsOf, nl, List.map_cons, List.map_nil, Nat.reduceEqDiff, ↓reduceIte, List.take_succ_cons, List.take_zero, List.range_succ, List.range_zero, List.nil_append, List.cons_append, List.map_append, List.drop_succ_cons, List.drop_zero, Nat.reduceMul, Nat.zero_mul, Nat.one_mul, Nat.reduceAdd])
    | (with_reducible refine WL_bornH (by simp) (by simp) ?_ ?_ ?_; (· simp [frz, frz1, hnm]); (· simp [frz1, hnm, PV.one, Value.oneCell']); simp only [elemsOf, nl, List.map_cons, List.map_nil, Nat.reduceEqDiff, ↓reduceIte, List.take_succ_cons, List.take_zero, List.range_succ, List.range_zero, List.nil_append, List.cons_append, List.map_append, List.drop_succ_cons, List.drop_zero, Nat.reduceMul, Nat.zero_mul, Nat.one_mul, Nat.reduceAdd])
    | ((first | (with_reducible apply WL_op; intro nx hnx) | with_reducible refine Ev_out ?_ | (with_reducible apply popsD_op; intro nx hnx) | (with_reducible refine popsD_alt ?_ ?_; intro nx hnx) | (with_reducible refine pfresh_k hnm fun nm hnm => ?_; (try simp only [fmb] at hnm)) | (with_reducible refine pborn_im ?_; simp only [elemsOf, nl, List.map_cons, List.map_nil, Nat.reduceEqDiff, ↓reduceIte, List.take_succ_cons, List.take_zero, List.range_succ, List.range_zero, List.nil_append, List.cons_append, List.map_append, List.drop_succ_cons, List.drop_zero, Nat.reduceMul, Nat.zero_mul, Nat.one_mul, Nat.reduceAdd])); try (simp (maxSteps := 2000000) (disch := omega) only [evb, evd, eve, constPV, seqK, blockK, scopeK, pbound, pelems, PV.mem?, PV.one, PV.cells, peqs, peq1, pkeys, List.set, Value.cells, ↓popG_eq, ↓pop.eq_1, ↓List.getElem?_map, ↓List.getElem?_cons_zero, ↓List.getElem?_cons_succ, Value.oneCell', Nat.reduceAdd, Nat.reduceMul, Nat.reduceSub, Nat.reduceLeDiff, Nat.reduceEqDiff, ↓reduceIte, ne_eq, reduceCtorEq, forall_const, exists_and_left, exists_eq_left', eq_self, Nat.reduceLT, Int.reduceLT, Int.reduceLE, Int.reduceToNat, Int.reduceAdd, Int.reduceSub, Int.reduceNeg, hnm, Tryd.tf0, Tryd.tf2, Tryd.tf3, Tryd.tf4, Tryd.tf5, Tryd.tf9, Tryd.tf23, Tryd.tf25, Tryd.tf52, Tryd.tf66, Tryd.call34, Tryd.call48, hlt, hl, ho, htk, hdr, b1, b2, hsl2, hso, hst]); repeat (refine And.intro (by omega) ?_))
    | ((with_reducible first | apply WL_nil | apply W_label | apply W_skip | apply W_exit | apply W_ret | apply popsD_done); try simp only [seqK, blockK, scopeK, ↓reduceIte, Nat.reduceEqDiff])
    | with_reducible exact popsD_stop
    | (with_reducible apply W_cond_k; intro _ _ ea eb; (simp only [condK, cob, opnd, constPV, Nat.reduceEqDiff, Nat.reduceLT, ↓reduceIte, hcb, reduceCtorEq, forall_const, ne_eq]); subst ea eb; first | (refine ⟨fun hc => ?_, fun hc => ?_⟩ <;> first | (exfalso; omega) | (exfalso; exact hc trivial) | skip) | skip)
    | (with_reducible apply hnx; clear hnx nx)
    | (with_reducible refine And.intro (by omega) ?_)
    | (with_reducible refine And.intro ?_ ?_)
    | (with_reducible refine pcall_k (c1) ?_; rintro _ _ ⟨rfl, rfl⟩ -; refine Ev_in ?_)
    | (with_reducible refine pcall_k (c2) ?_; rintro _ _ ⟨rfl, rfl⟩ -; refine Ev_in ?_)
    | (clear hnx nx; with_reducible apply hnx; clear hnx nx)
    | (clear hnx nx; clear hnx nx; with_reducible apply hnx; clear hnx nx))
    all_goals first
      | exact rfl
      | (exfalso
         omega)
      | (refine hlp _ (to - (t + 1)).toNat _ (by omega) ?_ ⟨t + 1, s, by omega, by omega, rfl, hsl, hF, rfl⟩
         refine Wk_fr (by simp only [wkb, Nat.reduceEqDiff, Nat.reduceLT, ↓reduceIte]) ?_
         exact Sub_refl (by simp [names, hnm]))
  · rw [advF_ge i c v hlt] at hF
    subst hF
    repeat' (first
    | (with_reducible apply W_seq_k; intro nx hnx)
    | (with_reducible first | apply W_block | apply W_scope)
    | (with_reducible refine W_prune 3615 ?_; simp only [prb, Nat.reducePow, Nat.reduceDiv, Nat.reduceMod, Nat.reduceBEq]; first | (with_reducible apply W_region_l) | with_reducible refine W_region_draw (id := 4) 3 (.op 0 true (.op 1 true (.op 2 true (.op 5 true (.op 6 true (.op 3 true (.op 4 true (.op 7 false (.op 8 false (.op 9 false (.done))))))))))) (by kernel_rfl) ?_)
    | ((first | (with_reducible apply WL_op; intro nx hnx) | with_reducible refine Ev_out ?_ | (with_reducible apply popsD_op; intro nx hnx) | (with_reducible refine popsD_alt ?_ ?_; intro nx hnx) | (with_reducible refine pfresh_k hnm fun nm hnm => ?_; (try simp only [fmb] at hnm)) | (with_reducible refine pborn_mu hnm fun nm hnm => ?_; (try simp only [fmb] at hnm))); try (simp (maxSteps := 2000000) (disch := omega) only [evb, evd, eve, constPV, seqK, blockK, scopeK, pbound, pelems, PV.mem?, PV.one, PV.cells, peqs, peq1, pkeys, List.set, Value.cells, ↓popG_eq, ↓pop.eq_1, ↓List.getElem?_map, ↓List.getElem?_cons_zero, ↓List.getElem?_cons_succ, Value.oneCell', Nat.reduceAdd, Nat.reduceMul, Nat.reduceSub, Nat.reduceLeDiff, Nat.reduceEqDiff, ↓reduceIte, ne_eq, reduceCtorEq, forall_const, exists_and_left, exists_eq_left', eq_self, Nat.reduceLT, Int.reduceLT, Int.reduceLE, Int.reduceToNat, Int.reduceAdd, Int.reduceSub, Int.reduceNeg, hnm, Tryd.tf0, Tryd.tf2, Tryd.tf3, Tryd.tf4, Tryd.tf5, Tryd.tf9, Tryd.tf23, Tryd.tf25, Tryd.tf52, Tryd.tf66, Tryd.call34, Tryd.call48, hlt, hl, ho, htk, hdr, hZl, hZd]); repeat (refine And.intro (by omega) ?_))
    | ((with_reducible first | apply WL_nil | apply W_label | apply W_skip | apply W_exit | apply W_ret | apply popsD_done); try simp only [seqK, blockK, scopeK, ↓reduceIte, Nat.reduceEqDiff])
    | with_reducible exact popsD_stop
    | (with_reducible apply W_cond_k; intro _ _ ea eb; (simp only [condK, cob, opnd, constPV, Nat.reduceEqDiff, Nat.reduceLT, ↓reduceIte, hcb, reduceCtorEq, forall_const, ne_eq]); subst ea eb; first | (refine ⟨fun hc => ?_, fun hc => ?_⟩ <;> first | (exfalso; omega) | (exfalso; exact hc trivial) | skip) | skip)
    | (with_reducible apply hnx; clear hnx nx)
    | (with_reducible refine And.intro (by omega) ?_)
    | (with_reducible refine And.intro ?_ ?_)
    | (clear hnx nx; with_reducible apply hnx; clear hnx nx)
    | (clear hnx nx; clear hnx nx; with_reducible apply hnx; clear hnx nx))
    all_goals first
      | exact rfl
      | (exfalso
         omega)
      | (refine hfin _ _ ?_
         exact Fin_dig (n := NB) (by simp only [fr_getD_cons, Nat.reduceEqDiff, Nat.reduceLT, ↓reduceIte]) (by simp [look, hnm]) hFl ⟨rfl, rfl⟩)
end Go.PM

namespace Go.PM
open Go.Proofs
section
variable {P : Program} {G : Globs} {E : Amb} {A : Nat → Prop} {σ : PState} {a : Act} {w : World} {I : List Int}
theorem PCalls.nd {f : FuncId} {args : List PV} {Hin : Heap} {R : PV → Heap → Prop} (h : (names Hin).Nodup → PCalls P G f args Hin R) : PCalls P G f args Hin R :=
  fun w A F vals h1 h2 h3 => h h3 w A F vals h1 h2 h3
/-- A call to which the objects Hin are handed, wherever they stand. -/
theorem pcall_midn {fn : FuncId} {args : List PV} {R : PV → Heap → Prop} {d : Option Tmp} {K : PState → Prop} (front Hin back : Heap) (he : σ.heap = front ++ (Hin ++ back)) (hc : PCalls P G fn args Hin R)
    (hk : ∀ res Hout, R res Hout → (names (front ++ (Hout ++ back))).Nodup → K (PState.put ⟨σ.frame, front ++ (Hout ++ back)⟩ d res)) : @pcallI false P G σ d fn args ⟨K⟩ := by
  intro E A a w vals hs hsz hvals
  have nd : (names σ.heap).Nodup := hs.nodup
  rw [he] at nd
  simp only [names, List.map_append] at nd
  obtain ⟨n1, n2, n3⟩ := List.nodup_append.1 nd
  obtain ⟨n4, n5, n6⟩ := List.nodup_append.1 n2
  have hin : ∀ x ∈ Hin, x ∈ σ.heap := fun x hx => by rw [he]; exact List.mem_append_right _ (List.mem_append_left _ hx)
  have hrest : ∀ x ∈ front ++ back, x ∈ σ.heap ∧ x.1 ∉ names Hin := fun x hx => by
    rw [he]
    rcases List.mem_append.1 hx with h | h
    · exact ⟨List.mem_append_left _ h, fun hn => n3 _ (List.mem_map.2 ⟨_, h, rfl⟩) _ (List.mem_append_left _ hn) rfl⟩
    · exact ⟨List.mem_append_right _ (List.mem_append_right _ h), fun hn => n6 _ hn _ (List.mem_map.2 ⟨_, h, rfl⟩) rfl⟩
  have hrn : (names (front ++ back)).Nodup := by
    simp only [names, List.map_append]
    exact List.nodup_append.2 ⟨n1, n5, fun x hx y hy => n3 x hx y (List.mem_append_right _ hy)⟩
  refine (hc w A (names σ.heap ++ E.F) vals hs.lt hs.globs n4 (fun n o h => hs.objs n o (hin _ h)) (fun n o h b hb => ⟨(hs.own n o (hin _ h) b hb).1, (hs.own n o (hin _ h) b hb).2.1⟩) hsz hvals).mono ?_
  rintro e w' ⟨v, A', res, Hout, rfl, hR, hr, hs'⟩
  obtain ⟨hdis, hsim⟩ := hs.calledI (fun n h => List.mem_append.2 h) hin hrest hrn hs'
  have hperm : (front ++ (Hout ++ back)).Perm (Hout ++ (front ++ back)) := by
    rw [← List.append_assoc, ← List.append_assoc]
    exact List.Perm.append_right _ List.perm_append_comm
  have hsim2 : Sim G E A' ⟨σ.frame, front ++ (Hout ++ back)⟩ a w' := hsim.sub ⟨fun x hx => hperm.mem_iff.1 hx, (List.Perm.nodup_iff (List.Perm.map _ hperm)).2 hsim.nodup⟩
  exact ⟨v, _, A', rfl, hk res Hout hR hsim2.nodup, hsim2.put d hr, fun h => Bool.noConfusion h⟩
theorem pcall_mid {fn : FuncId} {args : List PV} {R : PV → Heap → Prop} {d : Option Tmp} {K : PState → Prop} (front Hin back : Heap) (he : σ.heap = front ++ (Hin ++ back)) (hc : PCalls P G fn args Hin R)
    (hk : ∀ res Hout, R res Hout → K (PState.put ⟨σ.frame, front ++ (Hout ++ back)⟩ d res)) : @pcallI false P G σ d fn args ⟨K⟩ :=
  pcall_midn front Hin back he hc fun res Hout h _ => hk res Hout h
end
/-- A builder that holds bytes. -/
@[reducible] def BS (b : Int) (bs : List UInt8) (H : Heap) : Prop :=
  (bs = [] ∧ H = [(b, ⟨54, false, 0, [.val (.pointer none), pnil]⟩)]) ∨ (bs ≠ [] ∧ ∃ r : Int, H = [(b, ⟨54, false, 0, [.ptr b 0, .row r 1 bs.length]⟩), (r, ⟨5, true, 1, bs.map pbyte⟩)])
attribute [local irreducible] W PCalls pcall pcallI WL
set_option maxRecDepth 100000 in
set_option maxHeartbeats 8000000 in
theorem writeL_c (G : Globs) (b : Int) (bs s : List UInt8) (hs0 : s ≠ []) (hsl : s.length ≤ 1000000) (hbl : bs.length ≤ 1000000000) (Hin : Heap) (hH : BS b bs Hin) :
    PCalls Tryd.prog G 25 [.ptr b 0, .list 1 (s.map pbyte)] Hin (fun res H => res = .tuple [pint .i64 s.length, .val .nilIface] ∧ BS b (bs ++ s) H) := by
  have hpos : 0 < s.length := List.length_pos_iff.2 hs0
  have hfl : flat (s.map pbyte) = s.map pbyte := flat_pb s
  rcases hH with ⟨rfl, rfl⟩ | ⟨hb0, r, rfl⟩
  · have c1 := copyCheck_c G b (.val (.pointer none)) pnil (.inl rfl)
    (refine PCalls_f Tryd.func25 rfl Tryd.ntmps25 Tryd.results25 (by simp) fun fin hfin => ?_; have hnm : True := trivial; simp (maxSteps := 2000000) (disch := omega) only [evb, evd, eve, constPV, seqK, blockK, scopeK, pbound, pelems, PV.mem?, PV.one, PV.cells, peqs, peq1, pkeys, List.set, Value.cells, ↓popG_eq, ↓pop.eq_1, ↓List.getElem?_map, ↓List.getElem?_cons_zero, ↓List.getElem?_cons_succ, Value.oneCell', Nat.reduceAdd, Nat.reduceMul, Nat.reduceSub, Nat.reduceLeDiff, Nat.reduceEqDiff, ↓reduceIte, ne_eq, reduceCtorEq, forall_const, exists_and_left, exists_eq_left', eq_self, Nat.reduceLT, Int.reduceLT, Int.reduceLE, Int.reduceToNat, Int.reduceAdd, Int.reduceSub, Int.reduceNeg, hnm, Tryd.tf0, Tryd.tf1, Tryd.tf3, Tryd.tf5, Tryd.tf51, Tryd.tf52, Tryd.tf54, Tryd.tf56, Tryd.call47])
    repeat' (first
    | (with_reducible apply W_seq_k; intro nx hnx)
    | (with_reducible first | apply W_block | apply W_scope)
    | (with_reducible refine W_prune 51 ?_; simp only [prb, Nat.reducePow, Nat.reduceDiv, Nat.reduceMod, Nat.reduceBEq]; with_reducible apply W_region_l)
    | ((first | (with_reducible apply WL_op; intro nx hnx) | with_reducible refine Ev_out ?_ | (with_reducible refine pfresh_k hnm fun nm hnm => ?_; (try simp only [fmb] at hnm)) | (with_reducible refine pborn_mu hnm fun nm hnm => ?_; (try simp only [fmb] at hnm))); try (simp (maxSteps := 2000000) (disch := omega) only [evb, evd, eve, constPV, seqK, blockK, scopeK, pbound, pelems, PV.mem?, PV.one, PV.cells, peqs, peq1, pkeys, List.set, Value.cells, ↓popG_eq, ↓pop.eq_1, ↓List.getElem?_map, ↓List.getElem?_cons_zero, ↓List.getElem?_cons_succ, Value.oneCell', Nat.reduceAdd, Nat.reduceMul, Nat.reduceSub, Nat.reduceLeDiff, Nat.reduceEqDiff, ↓reduceIte, ne_eq, reduceCtorEq, forall_const, exists_and_left, exists_eq_left', eq_self, Nat.reduceLT, Int.reduceLT, Int.reduceLE, Int.reduceToNat, Int.reduceAdd, Int.reduceSub, Int.reduceNeg, hnm, Tryd.tf0, Tryd.tf1, Tryd.tf3, Tryd.tf5, Tryd.tf51, Tryd.tf52, Tryd.tf54, Tryd.tf56, Tryd.call47, hfl]); repeat (refine And.intro (by omega) ?_))
    | ((with_reducible first | apply WL_nil | apply W_label | apply W_skip | apply W_exit | apply W_ret); try simp only [seqK, blockK, scopeK, ↓reduceIte, Nat.reduceEqDiff])
    | (with_reducible apply W_cond_k; intro _ _ ea eb; (simp only [condK, cob, opnd, constPV, Nat.reduceEqDiff, Nat.reduceLT, ↓reduceIte, hcb, reduceCtorEq, forall_const, ne_eq]); subst ea eb; first | (refine ⟨fun hc => ?_, fun hc => ?_⟩ <;> first | (exfalso; omega) | (exfalso; exact hc trivial) | skip) | skip)
    | (with_reducible apply hnx; clear hnx nx)
    | (with_reducible refine And.intro (by omega) ?_)
    | (with_reducible refine And.intro ?_ ?_)
    | ((refine pcall_mid [] _ [] rfl c1 ?_; rintro _ _ ⟨rfl, rfl⟩; refine Ev_in ?_))
    | (clear hnx nx; with_reducible apply hnx; clear hnx nx)
    | (clear hnx nx; clear hnx nx; with_reducible apply hnx; clear hnx nx))
    refine hfin _ _ (Fin_ret2 rfl rfl (H := [(b, ⟨54, false, 0, [.ptr b 0, .row nm 1 s.length]⟩), (nm, ⟨5, true, 1, s.map pbyte⟩)]) ⟨?_, ?_⟩ ⟨?_, .inr ⟨by simpa using hs0, nm, rfl⟩⟩)
    · intro x hx
      simp only [List.mem_cons, List.not_mem_nil, or_false] at hx ⊢
      rcases hx with rfl | rfl
      · exact .inr rfl
      · exact .inl rfl
    · simp [names, hnm]
    · simp only [fr_getD_cons, Nat.reduceEqDiff, Nat.reduceLT, ↓reduceIte]
  · refine PCalls.nd fun nd => ?_
    have hne : (b = r) = False ∧ (r = b) = False := by
      simp only [names, List.map_cons, List.map_nil, List.nodup_cons, List.mem_cons, List.not_mem_nil, or_false] at nd
      exact ⟨eq_false nd.1, eq_false fun e => nd.1 e.symm⟩
    have c1 := copyCheck_c G b (.ptr b 0) (.row r 1 bs.length) (.inr rfl)
    (refine PCalls_f Tryd.func25 rfl Tryd.ntmps25 Tryd.results25 (by simp) fun fin hfin => ?_; have hnm : True := trivial; simp (maxSteps := 2000000) (disch := omega) only [evb, evd, eve, constPV, seqK, blockK, scopeK, pbound, pelems, PV.mem?, PV.one, PV.cells, peqs, peq1, pkeys, List.set, Value.cells, ↓popG_eq, ↓pop.eq_1, ↓List.getElem?_map, ↓List.getElem?_cons_zero, ↓List.getElem?_cons_succ, Value.oneCell', Nat.reduceAdd, Nat.reduceMul, Nat.reduceSub, Nat.reduceLeDiff, Nat.reduceEqDiff, ↓reduceIte, ne_eq, reduceCtorEq, forall_const, exists_and_left, exists_eq_left', eq_self, Nat.reduceLT, Int.reduceLT, Int.reduceLE, Int.reduceToNat, Int.reduceAdd, Int.reduceSub, Int.reduceNeg, hnm, Tryd.tf0, Tryd.tf1, Tryd.tf3, Tryd.tf5, Tryd.tf51, Tryd.tf52, Tryd.tf54, Tryd.tf56, Tryd.call47])
    repeat' (first
    | (with_reducible apply W_seq_k; intro nx hnx)
    | (with_reducible first | apply W_block | apply W_scope)
    | (with_reducible refine W_prune 51 ?_; simp only [prb, Nat.reducePow, Nat.reduceDiv, Nat.reduceMod, Nat.reduceBEq]; with_reducible apply W_region_l)
    | ((first | (with_reducible apply WL_op; intro nx hnx) | with_reducible refine Ev_out ?_ | (with_reducible refine pfresh_k hnm fun nm hnm => ?_; (try simp only [fmb] at hnm)) | (with_reducible refine pborn_mu hnm fun nm hnm => ?_; (try simp only [fmb] at hnm))); try (simp (maxSteps := 2000000) (disch := omega) only [evb, evd, eve, constPV, seqK, blockK, scopeK, pbound, pelems, PV.mem?, PV.one, PV.cells, peqs, peq1, pkeys, List.set, Value.cells, ↓popG_eq, ↓pop.eq_1, ↓List.getElem?_map, ↓List.getElem?_cons_zero, ↓List.getElem?_cons_succ, Value.oneCell', Nat.reduceAdd, Nat.reduceMul, Nat.reduceSub, Nat.reduceLeDiff, Nat.reduceEqDiff, ↓reduceIte, ne_eq, reduceCtorEq, forall_const, exists_and_left, exists_eq_left', eq_self, Nat.reduceLT, Int.reduceLT, Int.reduceLE, Int.reduceToNat, Int.reduceAdd, Int.reduceSub, Int.reduceNeg, hnm, Tryd.tf0, Tryd.tf1, Tryd.tf3, Tryd.tf5, Tryd.tf51, Tryd.tf52, Tryd.tf54, Tryd.tf56, Tryd.call47, hne, hfl]); repeat (refine And.intro (by omega) ?_))
    | ((with_reducible first | apply WL_nil | apply W_label | apply W_skip | apply W_exit | apply W_ret); try simp only [seqK, blockK, scopeK, ↓reduceIte, Nat.reduceEqDiff])
    | (with_reducible apply W_cond_k; intro _ _ ea eb; (simp only [condK, cob, opnd, constPV, Nat.reduceEqDiff, Nat.reduceLT, ↓reduceIte, hcb, reduceCtorEq, forall_const, ne_eq]); subst ea eb; first | (refine ⟨fun hc => ?_, fun hc => ?_⟩ <;> first | (exfalso; omega) | (exfalso; exact hc trivial) | skip) | skip)
    | (with_reducible apply hnx; clear hnx nx)
    | (with_reducible refine And.intro (by omega) ?_)
    | (with_reducible refine And.intro ?_ ?_)
    | ((refine pcall_mid [] [_] [_] rfl c1 ?_; rintro _ _ ⟨rfl, rfl⟩; refine Ev_in ?_))
    | (clear hnx nx; with_reducible apply hnx; clear hnx nx)
    | (clear hnx nx; clear hnx nx; with_reducible apply hnx; clear hnx nx))
    have e1 : (bs ++ s).map pbyte = bs.map pbyte ++ s.map pbyte := List.map_append
    have e2 : (bs ++ s).length = bs.length + s.length := List.length_append
    refine hfin _ _ (Fin_ret2 rfl rfl (H := [(b, ⟨54, false, 0, [.ptr b 0, .row nm 1 (bs ++ s).length]⟩), (nm, ⟨5, true, 1, (bs ++ s).map pbyte⟩)]) ⟨?_, ?_⟩ ⟨?_, .inr ⟨by simp [hb0], nm, rfl⟩⟩)
    · intro x hx
      rw [e1, e2] at hx
      simp only [List.mem_cons, List.not_mem_nil, or_false] at hx ⊢
      rcases hx with rfl | rfl
      · exact .inr rfl
      · exact .inl rfl
    · simp [names, hnm]
    · simp only [fr_getD_cons, Nat.reduceEqDiff, Nat.reduceLT, ↓reduceIte]
set_option maxRecDepth 100000 in
set_option maxHeartbeats 8000000 in
theorem writeA_c (G : Globs) (b v : Int) (bs s : List UInt8) (hs0 : s.length = 16) (hbl : bs.length ≤ 1000000000) (HB : Heap) (hH : BS b bs HB) :
    PCalls Tryd.prog G 25 [.ptr b 0, .sub v 1 0 16] ((v, ⟨23, false, 0, s.map pbyte⟩) :: HB) (fun res H => res = .tuple [pint .i64 16, .val .nilIface] ∧ BS b (bs ++ s) H) := by
  have hsn : s ≠ [] := by
    rintro rfl
    cases hs0
  have hml : (s.map pbyte).length = 16 := by rw [List.length_map, hs0]
  have tk : List.take 16 (s.map pbyte) = s.map pbyte := List.take_of_length_le (by omega)
  have hon := all_one_byte s
  refine PCalls.nd fun nd => ?_
  rcases hH with ⟨rfl, rfl⟩ | ⟨hb0, r, rfl⟩
  · have hne : (b = v) = False ∧ (v = b) = False := by
      simp only [names, List.map_cons, List.map_nil, List.nodup_cons, List.mem_cons, List.not_mem_nil, or_false] at nd
      exact ⟨eq_false fun e => nd.1 e.symm, eq_false nd.1⟩
    have c1 := copyCheck_c G b (.val (.pointer none)) pnil (.inl rfl)
    (refine PCalls_f Tryd.func25 rfl Tryd.ntmps25 Tryd.results25 (by simp) fun fin hfin => ?_; have hnm : True := trivial; simp (maxSteps := 2000000) (disch := omega) only [evb, evd, eve, constPV, seqK, blockK, scopeK, pbound, pelems, PV.mem?, PV.one, PV.cells, peqs, peq1, pkeys, List.set, Value.cells, ↓popG_eq, ↓pop.eq_1, ↓List.getElem?_map, ↓List.getElem?_cons_zero, ↓List.getElem?_cons_succ, Value.oneCell', Nat.reduceAdd, Nat.reduceMul, Nat.reduceSub, Nat.reduceLeDiff, Nat.reduceEqDiff, ↓reduceIte, ne_eq, reduceCtorEq, forall_const, exists_and_left, exists_eq_left', eq_self, Nat.reduceLT, Int.reduceLT, Int.reduceLE, Int.reduceToNat, Int.reduceAdd, Int.reduceSub, Int.reduceNeg, hnm, Tryd.tf0, Tryd.tf1, Tryd.tf3, Tryd.tf5, Tryd.tf51, Tryd.tf52, Tryd.tf54, Tryd.tf56, Tryd.call47])
    repeat' (first
    | (with_reducible apply W_seq_k; intro nx hnx)
    | (with_reducible first | apply W_block | apply W_scope)
    | (with_reducible refine W_prune 51 ?_; simp only [prb, Nat.reducePow, Nat.reduceDiv, Nat.reduceMod, Nat.reduceBEq]; with_reducible apply W_region_l)
    | ((first | (with_reducible apply WL_op; intro nx hnx) | with_reducible refine Ev_out ?_ | (with_reducible refine pfresh_k hnm fun nm hnm => ?_; (try simp only [fmb] at hnm)) | (with_reducible refine pborn_mu hnm fun nm hnm => ?_; (try simp only [fmb] at hnm))); try (simp (maxSteps := 2000000) (disch := omega) only [evb, evd, eve, constPV, seqK, blockK, scopeK, pbound, pelems, PV.mem?, PV.one, PV.cells, peqs, peq1, pkeys, List.set, Value.cells, ↓popG_eq, ↓pop.eq_1, ↓List.getElem?_map, ↓List.getElem?_cons_zero, ↓List.getElem?_cons_succ, Value.oneCell', Nat.reduceAdd, Nat.reduceMul, Nat.reduceSub, Nat.reduceLeDiff, Nat.reduceEqDiff, ↓reduceIte, ne_eq, reduceCtorEq, forall_const, exists_and_left, exists_eq_left', eq_self, Nat.reduceLT, Int.reduceLT, Int.reduceLE, Int.reduceToNat, Int.reduceAdd, Int.reduceSub, Int.reduceNeg, hnm, Tryd.tf0, Tryd.tf1, Tryd.tf3, Tryd.tf5, Tryd.tf51, Tryd.tf52, Tryd.tf54, Tryd.tf56, Tryd.call47, hne, hml, tk, hon]); repeat (refine And.intro (by omega) ?_))
    | ((with_reducible first | apply WL_nil | apply W_label | apply W_skip | apply W_exit | apply W_ret); try simp only [seqK, blockK, scopeK, ↓reduceIte, Nat.reduceEqDiff])
    | (with_reducible apply W_cond_k; intro _ _ ea eb; (simp only [condK, cob, opnd, constPV, Nat.reduceEqDiff, Nat.reduceLT, ↓reduceIte, hcb, reduceCtorEq, forall_const, ne_eq]); subst ea eb; first | (refine ⟨fun hc => ?_, fun hc => ?_⟩ <;> first | (exfalso; omega) | (exfalso; exact hc trivial) | skip) | skip)
    | (with_reducible apply hnx; clear hnx nx)
    | (with_reducible refine And.intro (by omega) ?_)
    | (with_reducible refine And.intro ?_ ?_)
    | ((refine pcall_mid [_] [_] [] rfl c1 ?_; rintro _ _ ⟨rfl, rfl⟩; refine Ev_in ?_))
    | (clear hnx nx; with_reducible apply hnx; clear hnx nx)
    | (clear hnx nx; clear hnx nx; with_reducible apply hnx; clear hnx nx))
    refine hfin _ _ (Fin_ret2 rfl rfl (H := [(b, ⟨54, false, 0, [.ptr b 0, .row nm 1 16]⟩), (nm, ⟨5, true, 1, s.map pbyte⟩)]) ⟨?_, ?_⟩ ⟨?_, .inr ⟨by simpa using hsn, nm, by simp [hs0]⟩⟩)
    · intro x hx
      simp only [List.mem_cons, List.not_mem_nil, or_false] at hx ⊢
      rcases hx with rfl | rfl
      · exact .inr (.inr rfl)
      · exact .inl rfl
    · simp [names, hnm]
    · simp only [fr_getD_cons, Nat.reduceEqDiff, Nat.reduceLT, ↓reduceIte]
  · have hne : (b = r) = False ∧ (r = b) = False ∧ (b = v) = False ∧ (v = b) = False ∧ (r = v) = False ∧ (v = r) = False := by
      simp only [names, List.map_cons, List.map_nil, List.nodup_cons, List.mem_cons, List.not_mem_nil, or_false, not_or] at nd
      obtain ⟨⟨n1, n2⟩, n3, -⟩ := nd
      exact ⟨eq_false n3, eq_false fun e => n3 e.symm, eq_false fun e => n1 e.symm, eq_false n1, eq_false fun e => n2 e.symm, eq_false n2⟩
    have c1 := copyCheck_c G b (.ptr b 0) (.row r 1 bs.length) (.inr rfl)
    (refine PCalls_f Tryd.func25 rfl Tryd.ntmps25 Tryd.results25 (by simp) fun fin hfin => ?_; have hnm : True := trivial; simp (maxSteps := 2000000) (disch := omega) only [evb, evd, eve, constPV, seqK, blockK, scopeK, pbound, pelems, PV.mem?, PV.one, PV.cells, peqs, peq1, pkeys, List.set, Value.cells, ↓popG_eq, ↓pop.eq_1, ↓List.getElem?_map, ↓List.getElem?_cons_zero, ↓List.getElem?_cons_succ, Value.oneCell', Nat.reduceAdd, Nat.reduceMul, Nat.reduceSub, Nat.reduceLeDiff, Nat.reduceEqDiff, ↓reduceIte, ne_eq, reduceCtorEq, forall_const, exists_and_left, exists_eq_left', eq_self, Nat.reduceLT, Int.reduceLT, Int.reduceLE, Int.reduceToNat, Int.reduceAdd, Int.reduceSub, Int.reduceNeg, hnm, Tryd.tf0, Tryd.tf1, Tryd.tf3, Tryd.tf5, Tryd.tf51, Tryd.tf52, Tryd.tf54, Tryd.tf56, Tryd.call47])
    repeat' (first
    | (with_reducible apply W_seq_k; intro nx hnx)
    | (with_reducible first | apply W_block | apply W_scope)
    | (with_reducible refine W_prune 51 ?_; simp only [prb, Nat.reducePow, Nat.reduceDiv, Nat.reduceMod, Nat.reduceBEq]; with_reducible apply W_region_l)
    | ((first | (with_reducible apply WL_op; intro nx hnx) | with_reducible refine Ev_out ?_ | (with_reducible refine pfresh_k hnm fun nm hnm => ?_; (try simp only [fmb] at hnm)) | (with_reducible refine pborn_mu hnm fun nm hnm => ?_; (try simp only [fmb] at hnm))); try (simp (maxSteps := 2000000) (disch := omega) only [evb, evd, eve, constPV, seqK, blockK, scopeK, pbound, pelems, PV.mem?, PV.one, PV.cells, peqs, peq1, pkeys, List.set, Value.cells, ↓popG_eq, ↓pop.eq_1, ↓List.getElem?_map, ↓List.getElem?_cons_zero, ↓List.getElem?_cons_succ, Value.oneCell', Nat.reduceAdd, Nat.reduceMul, Nat.reduceSub, Nat.reduceLeDiff, Nat.reduceEqDiff, ↓reduceIte, ne_eq, reduceCtorEq, forall_const, exists_and_left, exists_eq_left', eq_self, Nat.reduceLT, Int.reduceLT, Int.reduceLE, Int.reduceToNat, Int.reduceAdd, Int.reduceSub, Int.reduceNeg, hnm, Tryd.tf0, Tryd.tf1, Tryd.tf3, Tryd.tf5, Tryd.tf51, Tryd.tf52, Tryd.tf54, Tryd.tf56, Tryd.call47, hne, hml, tk, hon]); repeat (refine And.intro (by omega) ?_))
    | ((with_reducible first | apply WL_nil | apply W_label | apply W_skip | apply W_exit | apply W_ret); try simp only [seqK, blockK, scopeK, ↓reduceIte, Nat.reduceEqDiff])
    | (with_reducible apply W_cond_k; intro _ _ ea eb; (simp only [condK, cob, opnd, constPV, Nat.reduceEqDiff, Nat.reduceLT, ↓reduceIte, hcb, reduceCtorEq, forall_const, ne_eq]); subst ea eb; first | (refine ⟨fun hc => ?_, fun hc => ?_⟩ <;> first | (exfalso; omega) | (exfalso; exact hc trivial) | skip) | skip)
    | (with_reducible apply hnx; clear hnx nx)
    | (with_reducible refine And.intro (by omega) ?_)
    | (with_reducible refine And.intro ?_ ?_)
    | ((refine pcall_mid [_] [_] [_] rfl c1 ?_; rintro _ _ ⟨rfl, rfl⟩; refine Ev_in ?_))
    | (clear hnx nx; with_reducible apply hnx; clear hnx nx)
    | (clear hnx nx; clear hnx nx; with_reducible apply hnx; clear hnx nx))
    have e1 : (bs ++ s).map pbyte = bs.map pbyte ++ s.map pbyte := List.map_append
    have e2 : (bs ++ s).length = bs.length + 16 := by rw [List.length_append, hs0]
    refine hfin _ _ (Fin_ret2 rfl rfl (H := [(b, ⟨54, false, 0, [.ptr b 0, .row nm 1 (bs ++ s).length]⟩), (nm, ⟨5, true, 1, (bs ++ s).map pbyte⟩)]) ⟨?_, ?_⟩ ⟨?_, .inr ⟨by simp [hb0], nm, rfl⟩⟩)
    · intro x hx
      rw [e1, e2] at hx
      simp only [List.mem_cons, List.not_mem_nil, or_false] at hx ⊢
      rcases hx with rfl | rfl
      · exact .inr (.inr rfl)
      · exact .inl rfl
    · simp [names, hnm]
    · simp only [fr_getD_cons, Nat.reduceEqDiff, Nat.reduceLT, ↓reduceIte]
set_option maxRecDepth 100000 in
set_option maxHeartbeats 8000000 in
theorem string_c (G : Globs) (b : Int) (bs : List UInt8) (hbl : bs.length ≤ 1000000000) (Hin : Heap) (hH : BS b bs Hin) : PCalls Tryd.prog G 29 [.ptr b 0] Hin (fun res H => res = pstr bs ∧ H = []) := by
  rcases hH with ⟨rfl, rfl⟩ | ⟨hb0, r, rfl⟩
  · (refine PCalls_f Tryd.func29 rfl Tryd.ntmps29 Tryd.results29 (by simp) fun fin hfin => ?_; have hnm : True := trivial; simp (maxSteps := 2000000) (disch := omega) only [evb, evd, eve, constPV, seqK, blockK, scopeK, pbound, pelems, PV.mem?, PV.one, PV.cells, peqs, peq1, pkeys, List.set, Value.cells, ↓popG_eq, ↓pop.eq_1, ↓List.getElem?_map, ↓List.getElem?_cons_zero, ↓List.getElem?_cons_succ, Value.oneCell', Nat.reduceAdd, Nat.reduceMul, Nat.reduceSub, Nat.reduceLeDiff, Nat.reduceEqDiff, ↓reduceIte, ne_eq, reduceCtorEq, forall_const, exists_and_left, exists_eq_left', eq_self, Nat.reduceLT, Int.reduceLT, Int.reduceLE, Int.reduceToNat, Int.reduceAdd, Int.reduceSub, Int.reduceNeg, hnm, Tryd.tf0, Tryd.tf1, Tryd.tf3, Tryd.tf5, Tryd.tf9, Tryd.tf51, Tryd.tf52, Tryd.tf54, Tryd.tf79])
    repeat' (first
    | (with_reducible apply W_seq_k; intro nx hnx)
    | (with_reducible first | apply W_block | apply W_scope)
    | (with_reducible refine W_prune 5 ?_; simp only [prb, Nat.reducePow, Nat.reduceDiv, Nat.reduceMod, Nat.reduceBEq]; first | (with_reducible apply W_region_l) | with_reducible refine W_region_draw (id := 1) 4 (.op 0 true (.op 1 true (.op 2 true (.op 3 true (.op 5 true (.op 6 true (.op 7 true (.op 8 true (.op 9 true (.op 4 true (.op 10 false (.op 11 true (.done))))))))))))) (by kernel_rfl) ?_)
    | ((first | (with_reducible apply WL_op; intro nx hnx) | with_reducible refine Ev_out ?_ | (with_reducible apply popsD_op; intro nx hnx) | (with_reducible refine popsD_alt ?_ ?_; intro nx hnx)); try (simp (maxSteps := 2000000) (disch := omega) only [evb, evd, eve, constPV, seqK, blockK, scopeK, pbound, pelems, PV.mem?, PV.one, PV.cells, peqs, peq1, pkeys, List.set, Value.cells, ↓popG_eq, ↓pop.eq_1, ↓List.getElem?_map, ↓List.getElem?_cons_zero, ↓List.getElem?_cons_succ, Value.oneCell', Nat.reduceAdd, Nat.reduceMul, Nat.reduceSub, Nat.reduceLeDiff, Nat.reduceEqDiff, ↓reduceIte, ne_eq, reduceCtorEq, forall_const, exists_and_left, exists_eq_left', eq_self, Nat.reduceLT, Int.reduceLT, Int.reduceLE, Int.reduceToNat, Int.reduceAdd, Int.reduceSub, Int.reduceNeg, hnm, Tryd.tf0, Tryd.tf1, Tryd.tf3, Tryd.tf5, Tryd.tf9, Tryd.tf51, Tryd.tf52, Tryd.tf54, Tryd.tf79]); repeat (refine And.intro (by omega) ?_))
    | ((with_reducible first | apply WL_nil | apply W_label | apply W_skip | apply W_exit | apply W_ret | apply popsD_done); try simp only [seqK, blockK, scopeK, ↓reduceIte, Nat.reduceEqDiff])
    | with_reducible exact popsD_stop
    | (with_reducible apply W_cond_k; intro _ _ ea eb; (simp only [condK, cob, opnd, constPV, Nat.reduceEqDiff, Nat.reduceLT, ↓reduceIte, hcb, reduceCtorEq, forall_const, ne_eq]); subst ea eb; first | (refine ⟨fun hc => ?_, fun hc => ?_⟩ <;> first | (exfalso; omega) | (exfalso; exact hc trivial) | skip) | skip)
    | (with_reducible apply hnx; clear hnx nx)
    | (with_reducible refine And.intro (by omega) ?_)
    | (with_reducible refine And.intro ?_ ?_)
    | (clear hnx nx; with_reducible apply hnx; clear hnx nx)
    | (clear hnx nx; clear hnx nx; with_reducible apply hnx; clear hnx nx))
    (refine hfin _ _ (Fin_ret1 rfl (Sub_nil _) ?_); simp only [List.getD_cons_zero, List.getD_cons_succ, fr_getD_cons, fr_getD_nil, Nat.reduceEqDiff, Nat.reduceLT, ↓reduceIte]; first | trivial | exact ⟨rfl, by trivial⟩ | (simp; done) | (simp; omega))
  · refine PCalls.nd fun nd => ?_
    have hne : (b = r) = False ∧ (r = b) = False := by
      simp only [names, List.map_cons, List.map_nil, List.nodup_cons, List.mem_cons, List.not_mem_nil, or_false] at nd
      exact ⟨eq_false nd.1, eq_false fun e => nd.1 e.symm⟩
    have hpos : 0 < bs.length := List.length_pos_iff.2 hb0
    have u1 := unb_pb bs
    have u2 := isByte_pb bs
    (refine PCalls_f Tryd.func29 rfl Tryd.ntmps29 Tryd.results29 (by simp) fun fin hfin => ?_; have hnm : True := trivial; simp (maxSteps := 2000000) (disch := omega) only [evb, evd, eve, constPV, seqK, blockK, scopeK, pbound, pelems, PV.mem?, PV.one, PV.cells, peqs, peq1, pkeys, List.set, Value.cells, ↓popG_eq, ↓pop.eq_1, ↓List.getElem?_map, ↓List.getElem?_cons_zero, ↓List.getElem?_cons_succ, Value.oneCell', Nat.reduceAdd, Nat.reduceMul, Nat.reduceSub, Nat.reduceLeDiff, Nat.reduceEqDiff, ↓reduceIte, ne_eq, reduceCtorEq, forall_const, exists_and_left, exists_eq_left', eq_self, Nat.reduceLT, Int.reduceLT, Int.reduceLE, Int.reduceToNat, Int.reduceAdd, Int.reduceSub, Int.reduceNeg, hnm, Tryd.tf0, Tryd.tf1, Tryd.tf3, Tryd.tf5, Tryd.tf9, Tryd.tf51, Tryd.tf52, Tryd.tf54, Tryd.tf79])
    repeat' (first
    | (with_reducible apply W_seq_k; intro nx hnx)
    | (with_reducible first | apply W_block | apply W_scope)
    | (with_reducible refine W_prune 5 ?_; simp only [prb, Nat.reducePow, Nat.reduceDiv, Nat.reduceMod, Nat.reduceBEq]; first | (with_reducible apply W_region_l) | with_reducible refine W_region_draw (id := 1) 4 (.op 0 true (.op 1 true (.op 2 true (.op 3 true (.op 5 true (.op 6 true (.op 7 true (.op 8 true (.op 9 true (.op 4 true (.op 10 false (.op 11 true (.done))))))))))))) (by kernel_rfl) ?_)
    | ((first | (with_reducible apply WL_op; intro nx hnx) | with_reducible refine Ev_out ?_ | (with_reducible apply popsD_op; intro nx hnx) | (with_reducible refine popsD_alt ?_ ?_; intro nx hnx)); try (simp (maxSteps := 2000000) (disch := omega) only [evb, evd, eve, constPV, seqK, blockK, scopeK, pbound, pelems, PV.mem?, PV.one, PV.cells, peqs, peq1, pkeys, List.set, Value.cells, ↓popG_eq, ↓pop.eq_1, ↓List.getElem?_map, ↓List.getElem?_cons_zero, ↓List.getElem?_cons_succ, Value.oneCell', Nat.reduceAdd, Nat.reduceMul, Nat.reduceSub, Nat.reduceLeDiff, Nat.reduceEqDiff, ↓reduceIte, ne_eq, reduceCtorEq, forall_const, exists_and_left, exists_eq_left', eq_self, Nat.reduceLT, Int.reduceLT, Int.reduceLE, Int.reduceToNat, Int.reduceAdd, Int.reduceSub, Int.reduceNeg, hnm, Tryd.tf0, Tryd.tf1, Tryd.tf3, Tryd.tf5, Tryd.tf9, Tryd.tf51, Tryd.tf52, Tryd.tf54, Tryd.tf79, hne, u1, u2, List.length_map]); repeat (refine And.intro (by omega) ?_))
    | ((with_reducible first | apply WL_nil | apply W_label | apply W_skip | apply W_exit | apply W_ret | apply popsD_done); try simp only [seqK, blockK, scopeK, ↓reduceIte, Nat.reduceEqDiff])
    | with_reducible exact popsD_stop
    | (with_reducible apply W_cond_k; intro _ _ ea eb; (simp only [condK, cob, opnd, constPV, Nat.reduceEqDiff, Nat.reduceLT, ↓reduceIte, hcb, reduceCtorEq, forall_const, ne_eq]); subst ea eb; first | (refine ⟨fun hc => ?_, fun hc => ?_⟩ <;> first | (exfalso; omega) | (exfalso; exact hc trivial) | skip) | skip)
    | (with_reducible apply hnx; clear hnx nx)
    | (with_reducible refine And.intro (by omega) ?_)
    | (with_reducible refine And.intro ?_ ?_)
    | (clear hnx nx; with_reducible apply hnx; clear hnx nx)
    | (clear hnx nx; clear hnx nx; with_reducible apply hnx; clear hnx nx))
    all_goals first
      | (refine hfin _ _ (Fin_ret1 rfl (Sub_nil _) ?_); simp only [List.getD_cons_zero, List.getD_cons_succ, fr_getD_cons, fr_getD_nil, Nat.reduceEqDiff, Nat.reduceLT, ↓reduceIte]; first | trivial | exact ⟨rfl, by trivial⟩ | (simp; done) | (simp; omega))
      | exact (by kernel_rfl : Tryd.prog.cellsOf 5 = 1)
end Go.PM

namespace Go.PM
open Go.Proofs
attribute [local irreducible] W PCalls pcall pcallI WL
/-- The cells of a digest that is filled. -/
def dgC (s : List UInt8) (i : Nat) : List PV := (s.take i).map pbyte ++ List.replicate (16 - i) (pint .u8 0)
theorem dgC_len {s : List UInt8} {i : Nat} (hs : 16 ≤ s.length) (h : i ≤ 16) : (dgC s i).length = 16 := by
  simp only [dgC, List.length_append, List.length_map, List.length_take, List.length_replicate]
  omega
theorem dgC_zero (s : List UInt8) : dgC s 0 = List.replicate 16 (pint .u8 0) := rfl
theorem dgC_full {s : List UInt8} (hs : 16 ≤ s.length) : dgC s 16 = (s.take 16).map pbyte := by
  simp [dgC]
theorem dgC_set {s : List UInt8} {i : Nat} {x : UInt8} (hs : 16 ≤ s.length) (h : i < 16) (hx : s[i]? = some x) : (dgC s i).set i (pbyte x) = dgC s (i + 1) := by
  obtain ⟨m, hm⟩ : ∃ m, 16 - i = m + 1 := ⟨16 - i - 1, by omega⟩
  have hl : ((s.take i).map pbyte).length = i := by rw [List.length_map, List.length_take]; omega
  rw [dgC, dgC, hm, List.set_append, hl, if_neg (by omega), show 16 - (i + 1) = m by omega, List.replicate_succ, Nat.sub_self, List.set_cons_zero, List.take_add_one, hx]
  simp
theorem dgC_put {s : List UInt8} {i : Nat} (hs : 16 ≤ s.length) (h : i < 16) : List.take i (dgC s i) ++ [pint .u8 (((s.getD i 0).toNat : Nat) : Int)] ++ List.drop (i + 1) (dgC s i) = dgC s (i + 1) := by
  obtain ⟨x, hx⟩ : ∃ x, s[i]? = some x := ⟨_, List.getElem?_eq_getElem (show i < s.length by omega)⟩
  have hl := dgC_len hs (show i ≤ 16 by omega)
  have hg : s.getD i 0 = x := by rw [List.getD_eq_getElem?_getD, hx]; rfl
  rw [← dgC_set hs h hx, hg, List.set_eq_take_append_cons_drop, if_pos (by omega), List.append_assoc]
  rfl
attribute [local irreducible] dgC
set_option maxRecDepth 100000 in
set_option maxHeartbeats 8000000 in
theorem digest_c (G : Globs) (s : List UInt8) (hs : 16 ≤ s.length) (hs2 : s.length ≤ 4000) : PCalls Tryd.prog G 42 [pstr s] [] (fun res H => res = .agg ((s.take 16).map pbyte) ∧ H = []) := by
  obtain ⟨Z, hZ⟩ : ∃ Z, Z = List.replicate 16 (pint .u8 0) := ⟨_, rfl⟩
  have hZ2 : [pint .u8 0, pint .u8 0, pint .u8 0, pint .u8 0, pint .u8 0, pint .u8 0, pint .u8 0, pint .u8 0, pint .u8 0, pint .u8 0, pint .u8 0, pint .u8 0, pint .u8 0, pint .u8 0, pint .u8 0, pint .u8 0] = Z := by rw [hZ]; rfl
  have hZl : Z.length = 16 := by rw [hZ]; rfl
  have hZd : List.drop 16 Z = [] := List.drop_of_length_le (by omega)
  (refine PCalls_f Tryd.func42 rfl Tryd.ntmps42 Tryd.results42 (by simp) fun fin hfin => ?_; have hnm : True := trivial; simp (maxSteps := 2000000) (disch := omega) only [evb, evd, eve, constPV, seqK, blockK, scopeK, pbound, pelems, PV.mem?, PV.one, PV.cells, peqs, peq1, pkeys, List.set, Value.cells, ↓popG_eq, ↓pop.eq_1, ↓List.getElem?_map, ↓List.getElem?_cons_zero, ↓List.getElem?_cons_succ, Value.oneCell', Nat.reduceAdd, Nat.reduceMul, Nat.reduceSub, Nat.reduceLeDiff, Nat.reduceEqDiff, ↓reduceIte, ne_eq, reduceCtorEq, forall_const, exists_and_left, exists_eq_left', eq_self, Nat.reduceLT, Int.reduceLT, Int.reduceLE, Int.reduceToNat, Int.reduceAdd, Int.reduceSub, Int.reduceNeg, hnm, Tryd.tf0, Tryd.tf3, Tryd.tf4, Tryd.tf5, Tryd.tf9, Tryd.tf23])
  repeat' (first
    | (with_reducible apply W_seq_k; intro nx hnx)
    | (with_reducible first | apply W_block | apply W_scope)
    | (with_reducible refine W_prune 29 ?_; simp only [prb, Nat.reducePow, Nat.reduceDiv, Nat.reduceMod, Nat.reduceBEq]; with_reducible apply W_region_l)
    | ((first | (with_reducible apply WL_op; intro nx hnx) | with_reducible refine Ev_out ?_ | (with_reducible refine pfresh_k hnm fun nm hnm => ?_; (try simp only [fmb] at hnm)) | (with_reducible refine pborn_mu hnm fun nm hnm => ?_; (try simp only [fmb] at hnm))); try (simp (maxSteps := 2000000) (disch := omega) only [evb, evd, eve, constPV, seqK, blockK, scopeK, pbound, pelems, PV.mem?, PV.one, PV.cells, peqs, peq1, pkeys, List.set, Value.cells, ↓popG_eq, ↓pop.eq_1, ↓List.getElem?_map, ↓List.getElem?_cons_zero, ↓List.getElem?_cons_succ, Value.oneCell', Nat.reduceAdd, Nat.reduceMul, Nat.reduceSub, Nat.reduceLeDiff, Nat.reduceEqDiff, ↓reduceIte, ne_eq, reduceCtorEq, forall_const, exists_and_left, exists_eq_left', eq_self, Nat.reduceLT, Int.reduceLT, Int.reduceLE, Int.reduceToNat, Int.reduceAdd, Int.reduceSub, Int.reduceNeg, hnm, Tryd.tf0, Tryd.tf3, Tryd.tf4, Tryd.tf5, Tryd.tf9, Tryd.tf23]); repeat (refine And.intro (by omega) ?_))
    | ((with_reducible first | apply WL_nil | apply W_label | apply W_skip | apply W_exit | apply W_ret); try simp only [seqK, blockK, scopeK, ↓reduceIte, Nat.reduceEqDiff])
    | (with_reducible apply W_cond_k; intro _ _ ea eb; (simp only [condK, cob, opnd, constPV, Nat.reduceEqDiff, Nat.reduceLT, ↓reduceIte, hcb, reduceCtorEq, forall_const, ne_eq]); subst ea eb; first | (refine ⟨fun hc => ?_, fun hc => ?_⟩ <;> first | (exfalso; omega) | (exfalso; exact hc trivial) | skip) | skip)
    | (with_reducible apply hnx; clear hnx nx)
    | (with_reducible refine And.intro (by omega) ?_)
    | (with_reducible refine And.intro ?_ ?_)
    | (clear hnx nx; with_reducible apply hnx; clear hnx nx)
    | (clear hnx nx; clear hnx nx; with_reducible apply hnx; clear hnx nx))
  obtain ⟨NB, hNB⟩ : ∃ N, N = nm := ⟨_, rfl⟩
  subst hNB
  obtain ⟨NA, hNA⟩ : ∃ N, N = nm := ⟨_, rfl⟩
  subst hNA
  refine W_loop_k (fun z τ => ∃ i : Nat, i ≤ 16 ∧ z = 16 - i ∧
      τ = ⟨fr 15 [(4, pint .i64 i), (0, pstr s), (3, .ptr NB 0), (2, .ptr NA 0)], [(NB, ⟨23, false, 0, dgC s i⟩), (NA, ⟨23, false, 0, Z⟩)]⟩) 16
    ⟨fr 15 [(4, pint .i64 (0 : Nat)), (0, pstr s), (3, .ptr NB 0), (2, .ptr NA 0)], [(NB, ⟨23, false, 0, dgC s 0⟩), (NA, ⟨23, false, 0, Z⟩)]⟩ (by
    rw [dgC_zero, ← hZ, ← hZ2]
    refine Wk_fr (by simp only [wkb, Nat.reduceEqDiff, Nat.reduceLT, ↓reduceIte]) ?_
    exact Sub_refl (by simp [names, hnm])) ⟨0, by omega, by omega, rfl⟩ ?_
  rintro z τ ⟨i, hi, rfl, rfl⟩ lp hlp
  have hl := dgC_len hs hi
  by_cases hlt : i < 16
  · obtain ⟨x, hg⟩ : ∃ x, s[i]? = some x := ⟨_, List.getElem?_eq_getElem (show i < s.length by omega)⟩
    have hg2 : s[i]'(by omega) = x := by
      rw [List.getElem?_eq_getElem (by omega)] at hg
      exact Option.some.inj hg
    have hset := dgC_put hs hlt
    repeat' (first
    | (with_reducible apply W_seq_k; intro nx hnx)
    | (with_reducible first | apply W_block | apply W_scope)
    | (with_reducible refine W_prune 29 ?_; simp only [prb, Nat.reducePow, Nat.reduceDiv, Nat.reduceMod, Nat.reduceBEq]; with_reducible apply W_region_l)
    | ((first | (with_reducible apply WL_op; intro nx hnx) | with_reducible refine Ev_out ?_ | (with_reducible refine pfresh_k hnm fun nm hnm => ?_; (try simp only [fmb] at hnm)) | (with_reducible refine pborn_mu hnm fun nm hnm => ?_; (try simp only [fmb] at hnm))); try (simp (maxSteps := 2000000) (disch := omega) only [evb, evd, eve, constPV, seqK, blockK, scopeK, pbound, pelems, PV.mem?, PV.one, PV.cells, peqs, peq1, pkeys, List.set, Value.cells, ↓popG_eq, ↓pop.eq_1, ↓List.getElem?_map, ↓List.getElem?_cons_zero, ↓List.getElem?_cons_succ, Value.oneCell', Nat.reduceAdd, Nat.reduceMul, Nat.reduceSub, Nat.reduceLeDiff, Nat.reduceEqDiff, ↓reduceIte, ne_eq, reduceCtorEq, forall_const, exists_and_left, exists_eq_left', eq_self, Nat.reduceLT, Int.reduceLT, Int.reduceLE, Int.reduceToNat, Int.reduceAdd, Int.reduceSub, Int.reduceNeg, hnm, Tryd.tf0, Tryd.tf3, Tryd.tf4, Tryd.tf5, Tryd.tf9, Tryd.tf23, hl, hg, hg2, hset]); repeat (refine And.intro (by omega) ?_))
    | ((with_reducible first | apply WL_nil | apply W_label | apply W_skip | apply W_exit | apply W_ret); try simp only [seqK, blockK, scopeK, ↓reduceIte, Nat.reduceEqDiff])
    | (with_reducible apply W_cond_k; intro _ _ ea eb; (simp only [condK, cob, opnd, constPV, Nat.reduceEqDiff, Nat.reduceLT, ↓reduceIte, hcb, reduceCtorEq, forall_const, ne_eq]); subst ea eb; first | (refine ⟨fun hc => ?_, fun hc => ?_⟩ <;> first | (exfalso; omega) | (exfalso; exact hc trivial) | skip) | skip)
    | (with_reducible apply hnx; clear hnx nx)
    | (with_reducible refine And.intro (by omega) ?_)
    | (with_reducible refine And.intro ?_ ?_)
    | (clear hnx nx; with_reducible apply hnx; clear hnx nx)
    | (clear hnx nx; clear hnx nx; with_reducible apply hnx; clear hnx nx))
    all_goals first
      | exact rfl
      | (exfalso
         omega)
      | (refine hlp _ (16 - (i + 1)) _ (by omega) ?_ ⟨i + 1, by omega, rfl, rfl⟩
         refine Wk_fr (by simp only [wkb, Nat.reduceEqDiff, Nat.reduceLT, ↓reduceIte]) ?_
         exact Sub_refl (by simp [names, hnm]))
  · obtain rfl : i = 16 := by omega
    have hfl := dgC_full hs
    have hol : (s.take 16).length = 16 := by rw [List.length_take]; omega
    rw [hfl] at hl ⊢
    generalize s.take 16 = f at *
    have hone := all_one_byte f
    have htk : List.take 16 (f.map pbyte) = f.map pbyte := List.take_of_length_le (by omega)
    repeat' (first
    | (with_reducible apply W_seq_k; intro nx hnx)
    | (with_reducible first | apply W_block | apply W_scope)
    | (with_reducible refine W_prune 29 ?_; simp only [prb, Nat.reducePow, Nat.reduceDiv, Nat.reduceMod, Nat.reduceBEq]; with_reducible apply W_region_l)
    | ((first | (with_reducible apply WL_op; intro nx hnx) | with_reducible refine Ev_out ?_ | (with_reducible refine pfresh_k hnm fun nm hnm => ?_; (try simp only [fmb] at hnm)) | (with_reducible refine pborn_mu hnm fun nm hnm => ?_; (try simp only [fmb] at hnm))); try (simp (maxSteps := 2000000) (disch := omega) only [evb, evd, eve, constPV, seqK, blockK, scopeK, pbound, pelems, PV.mem?, PV.one, PV.cells, peqs, peq1, pkeys, List.set, Value.cells, ↓popG_eq, ↓pop.eq_1, ↓List.getElem?_map, ↓List.getElem?_cons_zero, ↓List.getElem?_cons_succ, Value.oneCell', Nat.reduceAdd, Nat.reduceMul, Nat.reduceSub, Nat.reduceLeDiff, Nat.reduceEqDiff, ↓reduceIte, ne_eq, reduceCtorEq, forall_const, exists_and_left, exists_eq_left', eq_self, Nat.reduceLT, Int.reduceLT, Int.reduceLE, Int.reduceToNat, Int.reduceAdd, Int.reduceSub, Int.reduceNeg, hnm, Tryd.tf0, Tryd.tf3, Tryd.tf4, Tryd.tf5, Tryd.tf9, Tryd.tf23, hl, hone, htk, hZl, hZd, hol]); repeat (refine And.intro (by omega) ?_))
    | ((with_reducible first | apply WL_nil | apply W_label | apply W_skip | apply W_exit | apply W_ret); try simp only [seqK, blockK, scopeK, ↓reduceIte, Nat.reduceEqDiff])
    | (with_reducible apply W_cond_k; intro _ _ ea eb; (simp only [condK, cob, opnd, constPV, Nat.reduceEqDiff, Nat.reduceLT, ↓reduceIte, hcb, reduceCtorEq, forall_const, ne_eq]); subst ea eb; first | (refine ⟨fun hc => ?_, fun hc => ?_⟩ <;> first | (exfalso; omega) | (exfalso; exact hc trivial) | skip) | skip)
    | (with_reducible apply hnx; clear hnx nx)
    | (with_reducible refine And.intro (by omega) ?_)
    | (with_reducible refine And.intro ?_ ?_)
    | (clear hnx nx; with_reducible apply hnx; clear hnx nx)
    | (clear hnx nx; clear hnx nx; with_reducible apply hnx; clear hnx nx))
    all_goals first
      | exact rfl
      | (exfalso
         omega)
      | (refine hfin _ _ ?_
         exact Fin_dig (n := NA) (by simp only [fr_getD_cons, Nat.reduceEqDiff, Nat.reduceLT, ↓reduceIte]) (by simp [look, hnm]) hol ⟨rfl, rfl⟩)
set_option maxRecDepth 100000 in
set_option maxHeartbeats 8000000 in
theorem radv_c (G : Globs) (hG : G 0 = .iptr (KS.map pw) 0) (i c t0 to : Int) (v0 : List UInt8) (hi : inR i) (hc : inR c) (h1 : 0 ≤ t0) (h2 : t0 ≤ 100) (h3 : 0 ≤ to) (h4 : to ≤ 100) (hv0 : v0.length = 16) :
    PCalls Tryd.prog G 32 [pint .i64 i, pint .i64 c, pint .i64 t0, pint .i64 to, .agg (v0.map pbyte)] [] (fun res H => res = .agg ((advF i c t0 (to - t0).toNat v0).map pbyte) ∧ H = []) := by
  have hFl := advF_len i c (to - t0).toNat t0 v0 hv0
  generalize hF : advF i c t0 (to - t0).toNat v0 = F at *
  have hl0 : (v0.map pbyte).length = 16 := by rw [List.length_map, hv0]
  have ho0 := all_one_byte v0
  obtain ⟨Z, hZ⟩ : ∃ Z, Z = List.replicate 16 (pint .u8 0) := ⟨_, rfl⟩
  have hZ2 : [pint .u8 0, pint .u8 0, pint .u8 0, pint .u8 0, pint .u8 0, pint .u8 0, pint .u8 0, pint .u8 0, pint .u8 0, pint .u8 0, pint .u8 0, pint .u8 0, pint .u8 0, pint .u8 0, pint .u8 0, pint .u8 0] = Z := by rw [hZ]; rfl
  have hZl : Z.length = 16 := by rw [hZ]; rfl
  have hZd : List.drop 16 Z = [] := List.drop_of_length_le (by omega)
  (refine PCalls_f Tryd.func32 rfl Tryd.ntmps32 Tryd.results32 (by simp) fun fin hfin => ?_; have hnm : True := trivial; simp (maxSteps := 2000000) (disch := omega) only [evb, evd, eve, constPV, seqK, blockK, scopeK, pbound, pelems, PV.mem?, PV.one, PV.cells, peqs, peq1, pkeys, List.set, Value.cells, ↓popG_eq, ↓pop.eq_1, ↓List.getElem?_map, ↓List.getElem?_cons_zero, ↓List.getElem?_cons_succ, Value.oneCell', Nat.reduceAdd, Nat.reduceMul, Nat.reduceSub, Nat.reduceLeDiff, Nat.reduceEqDiff, ↓reduceIte, ne_eq, reduceCtorEq, forall_const, exists_and_left, exists_eq_left', eq_self, Nat.reduceLT, Int.reduceLT, Int.reduceLE, Int.reduceToNat, Int.reduceAdd, Int.reduceSub, Int.reduceNeg, hnm, Tryd.tf0, Tryd.tf2, Tryd.tf3, Tryd.tf4, Tryd.tf5, Tryd.tf9, Tryd.tf23, Tryd.tf25, Tryd.tf66, Tryd.call31, Tryd.call35, Tryd.call50])
  repeat' (first
    | (with_reducible apply W_seq_k; intro nx hnx)
    | (with_reducible first | apply W_block | apply W_scope)
    | (with_reducible refine W_prune 3615 ?_; simp only [prb, Nat.reducePow, Nat.reduceDiv, Nat.reduceMod, Nat.reduceBEq]; first | (with_reducible apply W_region_l) | with_reducible refine W_region_draw (id := 4) 2 (.op 0 true (.op 1 true (.op 2 true (.op 5 true (.op 3 true (.op 4 true (.op 6 false (.op 7 false (.op 8 false (.op 9 false (.done))))))))))) (by kernel_rfl) ?_)
    | ((first | (with_reducible apply WL_op; intro nx hnx) | with_reducible refine Ev_out ?_ | (with_reducible apply popsD_op; intro nx hnx) | (with_reducible refine popsD_alt ?_ ?_; intro nx hnx) | (with_reducible refine pfresh_k hnm fun nm hnm => ?_; (try simp only [fmb] at hnm)) | (with_reducible refine pborn_mu hnm fun nm hnm => ?_; (try simp only [fmb] at hnm))); try (simp (maxSteps := 2000000) (disch := omega) only [evb, evd, eve, constPV, seqK, blockK, scopeK, pbound, pelems, PV.mem?, PV.one, PV.cells, peqs, peq1, pkeys, List.set, Value.cells, ↓popG_eq, ↓pop.eq_1, ↓List.getElem?_map, ↓List.getElem?_cons_zero, ↓List.getElem?_cons_succ, Value.oneCell', Nat.reduceAdd, Nat.reduceMul, Nat.reduceSub, Nat.reduceLeDiff, Nat.reduceEqDiff, ↓reduceIte, ne_eq, reduceCtorEq, forall_const, exists_and_left, exists_eq_left', eq_self, Nat.reduceLT, Int.reduceLT, Int.reduceLE, Int.reduceToNat, Int.reduceAdd, Int.reduceSub, Int.reduceNeg, hnm, Tryd.tf0, Tryd.tf2, Tryd.tf3, Tryd.tf4, Tryd.tf5, Tryd.tf9, Tryd.tf23, Tryd.tf25, Tryd.tf66, Tryd.call31, Tryd.call35, Tryd.call50, hl0, ho0]); repeat (refine And.intro (by omega) ?_))
    | ((with_reducible first | apply WL_nil | apply W_label | apply W_skip | apply W_exit | apply W_ret | apply popsD_done); try simp only [seqK, blockK, scopeK, ↓reduceIte, Nat.reduceEqDiff])
    | with_reducible exact popsD_stop
    | (with_reducible apply W_cond_k; intro _ _ ea eb; (simp only [condK, cob, opnd, constPV, Nat.reduceEqDiff, Nat.reduceLT, ↓reduceIte, hcb, reduceCtorEq, forall_const, ne_eq]); subst ea eb; first | (refine ⟨fun hc => ?_, fun hc => ?_⟩ <;> first | (exfalso; omega) | (exfalso; exact hc trivial) | skip) | skip)
    | (with_reducible apply hnx; clear hnx nx)
    | (with_reducible refine And.intro (by omega) ?_)
    | (with_reducible refine And.intro ?_ ?_)
    | (clear hnx nx; with_reducible apply hnx; clear hnx nx)
    | (clear hnx nx; clear hnx nx; with_reducible apply hnx; clear hnx nx))
  obtain ⟨NB, hNB⟩ : ∃ N, N = nm := ⟨_, rfl⟩
  subst hNB
  obtain ⟨NA, hNA⟩ : ∃ N, N = nm := ⟨_, rfl⟩
  subst hNA
  refine W_loop_k (fun z τ => ∃ (t : Int) (v : List UInt8), 0 ≤ t ∧ t ≤ 100 ∧ z = (to - t).toNat ∧ v.length = 16 ∧ advF i c t (to - t).toNat v = F ∧
      τ = ⟨fr 28 [(11, pint .i64 t), (0, pint .i64 i), (1, pint .i64 c), (3, pint .i64 to), (9, .ptr NA 0), (10, .ptr NB 0)], [(NB, ⟨23, false, 0, Z⟩), (NA, ⟨23, false, 0, v.map pbyte⟩)]⟩) (to - t0).toNat
    ⟨fr 28 [(11, pint .i64 t0), (0, pint .i64 i), (1, pint .i64 c), (3, pint .i64 to), (9, .ptr NA 0), (10, .ptr NB 0)], [(NB, ⟨23, false, 0, Z⟩), (NA, ⟨23, false, 0, v0.map pbyte⟩)]⟩ (by
    rw [← hZ2]
    refine Wk_fr (by simp only [wkb, Nat.reduceEqDiff, Nat.reduceLT, ↓reduceIte]) ?_
    exact Sub_refl (by simp [names, hnm])) ⟨t0, v0, h1, h2, rfl, hv0, hF, rfl⟩ ?_
  clear hF hl0 ho0 hv0
  rintro z τ ⟨t, v, t1, t2, rfl, hv, hF, rfl⟩ lp hlp
  have hl := hv
  rw [← List.length_map (f := pbyte)] at hl
  have ho := all_one_byte v
  have htk : List.take 16 (v.map pbyte) = v.map pbyte := List.take_of_length_le (by omega)
  have hdr : List.drop 16 (v.map pbyte) = [] := List.drop_of_length_le (by omega)
  by_cases hlt : t < to
  · rw [advF_lt i c v hlt] at hF
    have c1 := rints2_c G [i, c, t] (inR3 hi hc ⟨by omega, by omega⟩) (by simp)
    have hel := encI_len (inR3 hi hc (show inR t from ⟨by omega, by omega⟩)) (by simp)
    have c2 := rof_c G hG 8 [encI [i, c, t], v] (all_lt2 (by omega) (by omega)) (by simp)
    have hsl := stepC_len i c t v
    rw [show ofH 8 [encI [i, c, t], v] = stepC i c t v from rfl] at c2
    simp only [List.map_cons, List.map_nil] at c1 c2
    generalize stepC i c t v = s at *
    generalize encI [i, c, t] = e at *
    have b1 := isByte_pb v
    have b2 := unb_pb v
    have hsl2 : (s.map pbyte).length = 16 := by rw [List.length_map, hsl]
    have hso := all_one_byte s
    have hst : List.take 16 (s.map pbyte) = s.map pbyte := List.take_of_length_le (by omega)
    repeat' (first
    | (with_reducible apply W_seq_k; intro nx hnx)
    | (with_reducible first | apply W_block | apply W_scope)
    | (with_reducible refine W_prune 3615 ?_; simp only [prb, Nat.reducePow, Nat.reduceDiv, Nat.reduceMod, Nat.reduceBEq]; first | (with_reducible apply W_region_l) | with_reducible refine W_region_draw (id := 4) 2 (.op 0 true (.op 1 true (.op 2 true (.op 5 true (.op 3 true (.op 4 true (.op 6 false (.op 7 false (.op 8 false (.op 9 false (.done))))))))))) (by kernel_rfl) ?_)
    | (with_reducible refine WL_born (by simp) rfl (by simp) ?_; simp only [elemsOf, nl, List.map_cons, List.map_nil, Nat.reduceEqDiff, ↓reduceIte, List.take_succ_cons, List.take_zero, List.range_succ, List.range_zero, List.nil_append, List.cons_append, List.map_append, List.drop_succ_cons, List.drop_zero, Nat.reduceMul, Nat.zero_mul, Nat.one_mul, Nat.reduceAdd])
    | (with_reducible refine WL_bornH (by simp) (by simp) ?_ ?_ ?_; (· simp [frz, frz1, hnm]); (· simp [frz1, hnm, PV.one, Value.oneCell']); simp only [elemsOf, nl, List.map_cons, List.map_nil, Nat.reduceEqDiff, ↓reduceIte, List.take_succ_cons, List.take_zero, List.range_succ, List.range_zero, List.nil_append, List.cons_append, List.map_append, List.drop_succ_cons, List.drop_zero, Nat.reduceMul, Nat.zero_mul, Nat.one_mul, Nat.reduceAdd])
    | ((first | (with_reducible apply WL_op; intro nx hnx) | with_reducible refine Ev_out ?_ | (with_reducible apply popsD_op; intro nx hnx) | (with_reducible refine popsD_alt ?_ ?_; intro nx hnx) | (with_reducible refine pfresh_k hnm fun nm hnm => ?_; (try simp only [fmb] at hnm)) | (with_reducible refine pborn_im ?_; simp only [elemsOf, nl, List.map_cons, List.map_nil, Nat.reduceEqDiff, ↓reduceIte, List.take_succ_cons, List.take_zero, List.range_succ, List.range_zero, List.nil_append, List.cons_append, List.map_append, List.drop_succ_cons, List.drop_zero, Nat.reduceMul, Nat.zero_mul, Nat.one_mul, Nat.reduceAdd])); try (simp (maxSteps := 2000000) (disch := omega) only [evb, evd, eve, constPV, seqK, blockK, scopeK, pbound, pelems, PV.mem?, PV.one, PV.cells, peqs, peq1, pkeys, List.set, Value.cells, ↓popG_eq, ↓pop.eq_1, ↓List.getElem?_map, ↓List.getElem?_cons_zero, ↓List.getElem?_cons_succ, Value.oneCell', Nat.reduceAdd, Nat.reduceMul, Nat.reduceSub, Nat.reduceLeDiff, Nat.reduceEqDiff, ↓reduceIte, ne_eq, reduceCtorEq, forall_const, exists_and_left, exists_eq_left', eq_self, Nat.reduceLT, Int.reduceLT, Int.reduceLE, Int.reduceToNat, Int.reduceAdd, Int.reduceSub, Int.reduceNeg, hnm, Tryd.tf0, Tryd.tf2, Tryd.tf3, Tryd.tf4, Tryd.tf5, Tryd.tf9, Tryd.tf23, Tryd.tf25, Tryd.tf66, Tryd.call31, Tryd.call35, Tryd.call50, hlt, hl, ho, htk, hdr, b1, b2, hsl2, hso, hst]); repeat (refine And.intro (by omega) ?_))
    | ((with_reducible first | apply WL_nil | apply W_label | apply W_skip | apply W_exit | apply W_ret | apply popsD_done); try simp only [seqK, blockK, scopeK, ↓reduceIte, Nat.reduceEqDiff])
    | with_reducible exact popsD_stop
    | (with_reducible apply W_cond_k; intro _ _ ea eb; (simp only [condK, cob, opnd, constPV, Nat.reduceEqDiff, Nat.reduceLT, ↓reduceIte, hcb, reduceCtorEq, forall_const, ne_eq]); subst ea eb; first | (refine ⟨fun hc => ?_, fun hc => ?_⟩ <;> first | (exfalso; omega) | (exfalso; exact hc trivial) | skip) | skip)
    | (with_reducible apply hnx; clear hnx nx)
    | (with_reducible refine And.intro (by omega) ?_)
    | (with_reducible refine And.intro ?_ ?_)
    | (with_reducible refine pcall_k (c1) ?_; rintro _ _ ⟨rfl, rfl⟩ -; refine Ev_in ?_)
    | (with_reducible refine pcall_k (c2) ?_; rintro _ _ ⟨rfl, rfl⟩ -; refine Ev_in ?_)
    | (with_reducible refine pcall_k (text_c G v hv) ?_; rintro _ _ ⟨rfl, rfl⟩ -; refine Ev_in ?_)
    | (clear hnx nx; with_reducible apply hnx; clear hnx nx)
    | (clear hnx nx; clear hnx nx; with_reducible apply hnx; clear hnx nx))
    all_goals first
      | exact rfl
      | (exfalso
         omega)
      | (refine hlp _ (to - (t + 1)).toNat _ (by omega) ?_ ⟨t + 1, s, by omega, by omega, rfl, hsl, hF, rfl⟩
         refine Wk_fr (by simp only [wkb, Nat.reduceEqDiff, Nat.reduceLT, ↓reduceIte]) ?_
         exact Sub_refl (by simp [names, hnm]))
  · rw [advF_ge i c v hlt] at hF
    subst hF
    repeat' (first
    | (with_reducible apply W_seq_k; intro nx hnx)
    | (with_reducible first | apply W_block | apply W_scope)
    | (with_reducible refine W_prune 3615 ?_; simp only [prb, Nat.reducePow, Nat.reduceDiv, Nat.reduceMod, Nat.reduceBEq]; first | (with_reducible apply W_region_l) | with_reducible refine W_region_draw (id := 4) 2 (.op 0 true (.op 1 true (.op 2 true (.op 5 true (.op 3 true (.op 4 true (.op 6 false (.op 7 false (.op 8 false (.op 9 false (.done))))))))))) (by kernel_rfl) ?_)
    | ((first | (with_reducible apply WL_op; intro nx hnx) | with_reducible refine Ev_out ?_ | (with_reducible apply popsD_op; intro nx hnx) | (with_reducible refine popsD_alt ?_ ?_; intro nx hnx) | (with_reducible refine pfresh_k hnm fun nm hnm => ?_; (try simp only [fmb] at hnm)) | (with_reducible refine pborn_mu hnm fun nm hnm => ?_; (try simp only [fmb] at hnm))); try (simp (maxSteps := 2000000) (disch := omega) only [evb, evd, eve, constPV, seqK, blockK, scopeK, pbound, pelems, PV.mem?, PV.one, PV.cells, peqs, peq1, pkeys, List.set, Value.cells, ↓popG_eq, ↓pop.eq_1, ↓List.getElem?_map, ↓List.getElem?_cons_zero, ↓List.getElem?_cons_succ, Value.oneCell', Nat.reduceAdd, Nat.reduceMul, Nat.reduceSub, Nat.reduceLeDiff, Nat.reduceEqDiff, ↓reduceIte, ne_eq, reduceCtorEq, forall_const, exists_and_left, exists_eq_left', eq_self, Nat.reduceLT, Int.reduceLT, Int.reduceLE, Int.reduceToNat, Int.reduceAdd, Int.reduceSub, Int.reduceNeg, hnm, Tryd.tf0, Tryd.tf2, Tryd.tf3, Tryd.tf4, Tryd.tf5, Tryd.tf9, Tryd.tf23, Tryd.tf25, Tryd.tf66, Tryd.call31, Tryd.call35, Tryd.call50, hlt, hl, ho, htk, hdr, hZl, hZd]); repeat (refine And.intro (by omega) ?_))
    | ((with_reducible first | apply WL_nil | apply W_label | apply W_skip | apply W_exit | apply W_ret | apply popsD_done); try simp only [seqK, blockK, scopeK, ↓reduceIte, Nat.reduceEqDiff])
    | with_reducible exact popsD_stop
    | (with_reducible apply W_cond_k; intro _ _ ea eb; (simp only [condK, cob, opnd, constPV, Nat.reduceEqDiff, Nat.reduceLT, ↓reduceIte, hcb, reduceCtorEq, forall_const, ne_eq]); subst ea eb; first | (refine ⟨fun hc => ?_, fun hc => ?_⟩ <;> first | (exfalso; omega) | (exfalso; exact hc trivial) | skip) | skip)
    | (with_reducible apply hnx; clear hnx nx)
    | (with_reducible refine And.intro (by omega) ?_)
    | (with_reducible refine And.intro ?_ ?_)
    | (clear hnx nx; with_reducible apply hnx; clear hnx nx)
    | (clear hnx nx; clear hnx nx; with_reducible apply hnx; clear hnx nx))
    all_goals first
      | exact rfl
      | (exfalso
         omega)
      | (refine hfin _ _ ?_
         exact Fin_dig (n := NB) (by simp only [fr_getD_cons, Nat.reduceEqDiff, Nat.reduceLT, ↓reduceIte]) (by simp [look, hnm]) hFl ⟨rfl, rfl⟩)
end Go.PM

namespace Go.PM
open Go.Proofs
attribute [local irreducible] W PCalls pcall pcallI WL
/-- A digit of a digest. -/
def dig (d : List UInt8) (i : Nat) : Nat := (d.getD (i / 4) 0).toNat / 4 ^ (3 - i % 4) % 4
theorem dig_lt (d : List UInt8) (i : Nat) : dig d i < 4 := Nat.mod_lt _ (by omega)
/-- The checksum of the first digits. -/
def sumD (d : List UInt8) : Nat → Nat
  | 0 => 0
  | i + 1 => sumD d i + (3 - dig d i)
theorem sumD_le (d : List UInt8) : ∀ i, sumD d i ≤ 3 * i
  | 0 => Nat.le_refl _
  | i + 1 => by
    have := sumD_le d i
    simp only [sumD]
    omega
/-- The cells of the digits, in part filled. -/
def gC (d : List UInt8) (i : Nat) : List PV := (List.range i).map (fun j => pint .i64 (dig d j : Nat)) ++ List.replicate (68 - i) (pint .i64 0)
theorem gC_len {d : List UInt8} {i : Nat} (h : i ≤ 68) : (gC d i).length = 68 := by
  simp only [gC, List.length_append, List.length_map, List.length_range, List.length_replicate]
  omega
theorem gC_zero (d : List UInt8) : gC d 0 = List.replicate 68 (pint .i64 0) := rfl
theorem gC_put {d : List UInt8} {i : Nat} (h : i < 68) : List.take i (gC d i) ++ [pint .i64 (dig d i : Nat)] ++ List.drop (i + 1) (gC d i) = gC d (i + 1) := by
  obtain ⟨m, hm⟩ : ∃ m, 68 - i = m + 1 := ⟨68 - i - 1, by omega⟩
  have hl : ((List.range i).map (fun j => pint .i64 (dig d j : Nat))).length = i := by simp
  rw [gC, gC, hm, show 68 - (i + 1) = m by omega, List.take_append_of_le_length (by omega), List.take_of_length_le (by omega), List.drop_append, hl, List.drop_of_length_le (by omega), show i + 1 - i = 1 by omega, List.replicate_succ]
  simp [List.range_succ]
theorem gC_get {d : List UInt8} {i : Nat} (h : i < 68) : (gC d (i + 1))[i]? = some (pint .i64 (dig d i : Nat)) := by
  rw [gC, List.getElem?_append_left (by simp)]
  simp
theorem dig_op : ∀ (r : _root_.Fin 4) (x : _root_.Fin 256), (IntKind.i64.wrap (((x.val : Nat) : Int).fdiv (2 ^ min (6 - 2 * r.val) IntKind.u8.bits))).tmod 4 = ((x.val / 4 ^ (3 - r.val) % 4 : Nat) : Int) := by decide +kernel
/-- The digits of the checksum. -/
def chk (s : Nat) : List Nat := [s / 64 % 4, s / 16 % 4, s / 4 % 4, s % 4]
/-- The digits of a digest and of its checksum. -/
def digF (d : List UInt8) : List Nat := (List.range 64).map (dig d) ++ chk (sumD d 64)
def pn' (n : Nat) : PV := pint .i64 n
/-- The cells of the checksum's digits, in part filled. -/
def tlC (s k : Nat) : List PV := [pn' (if k ≤ 0 then s / 64 % 4 else 0), pn' (if k ≤ 1 then s / 16 % 4 else 0), pn' (if k ≤ 2 then s / 4 % 4 else 0), pn' (if k ≤ 3 then s % 4 else 0)]
def hC (d : List UInt8) (s k : Nat) : List PV := (List.range 64).map (fun j => pint .i64 (dig d j : Nat)) ++ tlC s k
theorem hC_len (d : List UInt8) (s k : Nat) : (hC d s k).length = 68 := by simp [hC, tlC]
theorem hC_four (d : List UInt8) (s : Nat) : gC d 64 = hC d s 4 := by
  simp [gC, hC, tlC, pn', List.replicate_succ]
theorem hC_zero (d : List UInt8) : hC d (sumD d 64) 0 = (digF d).map pn' := by
  simp [hC, digF, tlC, chk, pn']
theorem hC_put {d : List UInt8} {s k : Nat} (h : k < 4) : List.take (64 + k) (hC d s (k + 1)) ++ [pint .i64 (s / 4 ^ (3 - k) % 4 : Nat)] ++ List.drop (64 + k + 1) (hC d s (k + 1)) = hC d s k := by
  have hl : ((List.range 64).map (fun j => pint .i64 (dig d j : Nat))).length = 64 := by simp
  unfold hC
  generalize (List.range 64).map (fun j => pint .i64 (dig d j : Nat)) = D at *
  rw [List.take_append, List.drop_append, hl, List.take_of_length_le (by omega), List.drop_of_length_le (by omega)]
  have : k = 0 ∨ k = 1 ∨ k = 2 ∨ k = 3 := by omega
  rcases this with rfl | rfl | rfl | rfl <;> simp [tlC, pn']
attribute [local irreducible] gC hC
set_option maxRecDepth 100000 in
set_option maxHeartbeats 8000000 in
theorem dig_r (G : Globs) (d : List UInt8) (hd : d.length = 16) : PCalls Tryd.prog G 10 [.agg (d.map pbyte)] [] (fun res H => ∃ N, res = .sub N 1 0 68 ∧ H = [(N, ⟨43, false, 0, (digF d).map pn'⟩)]) := by
  have hl0 : (d.map pbyte).length = 16 := by rw [List.length_map, hd]
  have ho0 := all_one_byte d
  (refine PCalls_f Tryd.func10 rfl Tryd.ntmps10 Tryd.results10 (by simp) fun fin hfin => ?_; have hnm : True := trivial; simp (maxSteps := 2000000) (disch := omega) only [evb, evd, eve, constPV, seqK, blockK, scopeK, pbound, pelems, PV.mem?, PV.one, PV.cells, peqs, peq1, pkeys, List.set, Value.cells, ↓popG_eq, ↓pop.eq_1, ↓List.getElem?_map, ↓List.getElem?_cons_zero, ↓List.getElem?_cons_succ, Value.oneCell', Nat.reduceAdd, Nat.reduceMul, Nat.reduceSub, Nat.reduceLeDiff, Nat.reduceEqDiff, ↓reduceIte, ne_eq, reduceCtorEq, forall_const, exists_and_left, exists_eq_left', eq_self, Nat.reduceLT, Int.reduceLT, Int.reduceLE, Int.reduceToNat, Int.reduceAdd, Int.reduceSub, Int.reduceNeg, hnm, Tryd.tf0, Tryd.tf3, Tryd.tf4, Tryd.tf5, Tryd.tf23, Tryd.tf25, Tryd.tf43])
  repeat' (first
    | (with_reducible apply W_seq_k; intro nx hnx)
    | (with_reducible first | apply W_block | apply W_scope)
    | (with_reducible refine W_prune 255 ?_; simp only [prb, Nat.reducePow, Nat.reduceDiv, Nat.reduceMod, Nat.reduceBEq]; with_reducible apply W_region_l)
    | ((first | (with_reducible apply WL_op; intro nx hnx) | with_reducible refine Ev_out ?_ | (with_reducible refine pfresh_k hnm fun nm hnm => ?_; (try simp only [fmb] at hnm)) | (with_reducible refine pborn_mu hnm fun nm hnm => ?_; (try simp only [fmb] at hnm))); try (simp (maxSteps := 2000000) (disch := omega) only [evb, evd, eve, constPV, seqK, blockK, scopeK, pbound, pelems, PV.mem?, PV.one, PV.cells, peqs, peq1, pkeys, List.set, Value.cells, ↓popG_eq, ↓pop.eq_1, ↓List.getElem?_map, ↓List.getElem?_cons_zero, ↓List.getElem?_cons_succ, Value.oneCell', Nat.reduceAdd, Nat.reduceMul, Nat.reduceSub, Nat.reduceLeDiff, Nat.reduceEqDiff, ↓reduceIte, ne_eq, reduceCtorEq, forall_const, exists_and_left, exists_eq_left', eq_self, Nat.reduceLT, Int.reduceLT, Int.reduceLE, Int.reduceToNat, Int.reduceAdd, Int.reduceSub, Int.reduceNeg, hnm, Tryd.tf0, Tryd.tf3, Tryd.tf4, Tryd.tf5, Tryd.tf23, Tryd.tf25, Tryd.tf43, hl0, ho0]); repeat (refine And.intro (by omega) ?_))
    | ((with_reducible first | apply WL_nil | apply W_label | apply W_skip | apply W_exit | apply W_ret); try simp only [seqK, blockK, scopeK, ↓reduceIte, Nat.reduceEqDiff])
    | (with_reducible apply W_cond_k; intro _ _ ea eb; (simp only [condK, cob, opnd, constPV, Nat.reduceEqDiff, Nat.reduceLT, ↓reduceIte, hcb, reduceCtorEq, forall_const, ne_eq]); subst ea eb; first | (refine ⟨fun hc => ?_, fun hc => ?_⟩ <;> first | (exfalso; omega) | (exfalso; exact hc trivial) | skip) | skip)
    | (with_reducible apply hnx; clear hnx nx)
    | (with_reducible refine And.intro (by omega) ?_)
    | (with_reducible refine And.intro ?_ ?_)
    | (clear hnx nx; with_reducible apply hnx; clear hnx nx)
    | (clear hnx nx; clear hnx nx; with_reducible apply hnx; clear hnx nx))
  obtain ⟨NB, hNB⟩ : ∃ N, N = nm := ⟨_, rfl⟩
  subst hNB
  obtain ⟨NA, hNA⟩ : ∃ N, N = nm := ⟨_, rfl⟩
  subst hNA
  refine W_loop_k (fun z τ => ∃ i : Nat, i ≤ 64 ∧ z = 64 - i ∧
      τ = ⟨fr 41 [(7, pint .i64 i), (4, pint .i64 (sumD d i : Nat)), (3, .ptr NB 0), (1, .ptr NA 0)], [(NB, ⟨43, false, 0, gC d i⟩), (NA, ⟨23, false, 0, d.map pbyte⟩)]⟩) 64
    ⟨fr 41 [(7, pint .i64 (0 : Nat)), (4, pint .i64 (0 : Nat)), (3, .ptr NB 0), (1, .ptr NA 0)], [(NB, ⟨43, false, 0, gC d 0⟩), (NA, ⟨23, false, 0, d.map pbyte⟩)]⟩ (by
    rw [gC_zero]
    refine Wk_fr (by simp only [wkb, Nat.reduceEqDiff, Nat.reduceLT, ↓reduceIte]) ?_
    exact Sub_refl (by simp [names, hnm])) ⟨0, by omega, by omega, rfl⟩ ?_
  rintro z τ ⟨i, hi, rfl, rfl⟩ lp hlp
  have hl := gC_len (d := d) (show i ≤ 68 by omega)
  by_cases hlt : i < 64
  · have e1 : Int.tdiv (i : Int) 4 = ((i / 4 : Nat) : Int) := by
      rw [Int.tdiv_eq_ediv_of_nonneg (by omega)]
      omega
    have e2 : Int.tmod (i : Int) 4 = ((i % 4 : Nat) : Int) := by
      rw [Int.tmod_eq_emod_of_nonneg (by omega)]
      omega
    have hs := sumD_le d i
    obtain ⟨x, hg⟩ : ∃ x, d[i / 4]? = some x := ⟨_, List.getElem?_eq_getElem (show i / 4 < d.length by omega)⟩
    have hx := x.toNat_lt
    have e3 : 6 - 2 * ((i % 4 : Nat) : Int) = ((6 - 2 * (i % 4) : Nat) : Int) := by omega
    have hdi : dig d i = x.toNat / 4 ^ (3 - i % 4) % 4 := by rw [dig, List.getD_eq_getElem?_getD, hg]; rfl
    have e4 : (IntKind.i64.wrap (((x.toNat : Nat) : Int).fdiv (2 ^ min (6 - 2 * (i % 4)) IntKind.u8.bits))).tmod 4 = ((dig d i : Nat) : Int) := by
      rw [hdi]
      exact dig_op ⟨i % 4, Nat.mod_lt _ (by omega)⟩ ⟨x.toNat, by omega⟩
    have e5 := gC_put (d := d) (show i < 68 by omega)
    have e6 := gC_get (d := d) (show i < 68 by omega)
    have hl2 := gC_len (d := d) (show i + 1 ≤ 68 by omega)
    have hdl := dig_lt d i
    have e7 : sumD d (i + 1) = sumD d i + (3 - dig d i) := rfl
    have e8 : ((sumD d i : Nat) : Int) + (3 - ((dig d i : Nat) : Int)) = ((sumD d (i + 1) : Nat) : Int) := by omega
    repeat' (first
    | (with_reducible apply W_seq_k; intro nx hnx)
    | (with_reducible first | apply W_block | apply W_scope)
    | (with_reducible refine W_prune 255 ?_; simp only [prb, Nat.reducePow, Nat.reduceDiv, Nat.reduceMod, Nat.reduceBEq]; with_reducible apply W_region_l)
    | ((first | (with_reducible apply WL_op; intro nx hnx) | with_reducible refine Ev_out ?_ | (with_reducible refine pfresh_k hnm fun nm hnm => ?_; (try simp only [fmb] at hnm)) | (with_reducible refine pborn_mu hnm fun nm hnm => ?_; (try simp only [fmb] at hnm))); try (simp (maxSteps := 2000000) (disch := omega) only [evb, evd, eve, constPV, seqK, blockK, scopeK, pbound, pelems, PV.mem?, PV.one, PV.cells, peqs, peq1, pkeys, List.set, Value.cells, ↓popG_eq, ↓pop.eq_1, ↓List.getElem?_map, ↓List.getElem?_cons_zero, ↓List.getElem?_cons_succ, Value.oneCell', Nat.reduceAdd, Nat.reduceMul, Nat.reduceSub, Nat.reduceLeDiff, Nat.reduceEqDiff, ↓reduceIte, ne_eq, reduceCtorEq, forall_const, exists_and_left, exists_eq_left', eq_self, Nat.reduceLT, Int.reduceLT, Int.reduceLE, Int.reduceToNat, Int.reduceAdd, Int.reduceSub, Int.reduceNeg, hnm, Tryd.tf0, Tryd.tf3, Tryd.tf4, Tryd.tf5, Tryd.tf23, Tryd.tf25, Tryd.tf43, hl, hl2, e1, e2, e3, e4, e5, e6, e8, hg, Option.map_some]); repeat (refine And.intro (by omega) ?_))
    | ((with_reducible first | apply WL_nil | apply W_label | apply W_skip | apply W_exit | apply W_ret); try simp only [seqK, blockK, scopeK, ↓reduceIte, Nat.reduceEqDiff])
    | (with_reducible apply W_cond_k; intro _ _ ea eb; (simp only [condK, cob, opnd, constPV, Nat.reduceEqDiff, Nat.reduceLT, ↓reduceIte, hcb, reduceCtorEq, forall_const, ne_eq]); subst ea eb; first | (refine ⟨fun hc => ?_, fun hc => ?_⟩ <;> first | (exfalso; omega) | (exfalso; exact hc trivial) | skip) | skip)
    | (with_reducible apply hnx; clear hnx nx)
    | (with_reducible refine And.intro (by omega) ?_)
    | (with_reducible refine And.intro ?_ ?_)
    | (clear hnx nx; with_reducible apply hnx; clear hnx nx)
    | (clear hnx nx; clear hnx nx; with_reducible apply hnx; clear hnx nx))
    all_goals first
      | exact rfl
      | (exfalso
         omega)
      | (refine hlp _ (64 - (i + 1)) _ (by omega) ?_ ⟨i + 1, by omega, rfl, rfl⟩
         refine Wk_fr (by simp only [wkb, Nat.reduceEqDiff, Nat.reduceLT, ↓reduceIte]) ?_
         exact Sub_refl (by simp [names, hnm]))
  · obtain rfl : i = 64 := by omega
    have hs := sumD_le d 64
    have hz := hC_zero d
    generalize digF d = F at *
    rw [hC_four d (sumD d 64)] at hl ⊢
    generalize sumD d 64 = S at *
    repeat' (first
    | (with_reducible apply W_seq_k; intro nx hnx)
    | (with_reducible first | apply W_block | apply W_scope)
    | (with_reducible refine W_prune 255 ?_; simp only [prb, Nat.reducePow, Nat.reduceDiv, Nat.reduceMod, Nat.reduceBEq]; with_reducible apply W_region_l)
    | ((first | (with_reducible apply WL_op; intro nx hnx) | with_reducible refine Ev_out ?_ | (with_reducible refine pfresh_k hnm fun nm hnm => ?_; (try simp only [fmb] at hnm)) | (with_reducible refine pborn_mu hnm fun nm hnm => ?_; (try simp only [fmb] at hnm))); try (simp (maxSteps := 2000000) (disch := omega) only [evb, evd, eve, constPV, seqK, blockK, scopeK, pbound, pelems, PV.mem?, PV.one, PV.cells, peqs, peq1, pkeys, List.set, Value.cells, ↓popG_eq, ↓pop.eq_1, ↓List.getElem?_map, ↓List.getElem?_cons_zero, ↓List.getElem?_cons_succ, Value.oneCell', Nat.reduceAdd, Nat.reduceMul, Nat.reduceSub, Nat.reduceLeDiff, Nat.reduceEqDiff, ↓reduceIte, ne_eq, reduceCtorEq, forall_const, exists_and_left, exists_eq_left', eq_self, Nat.reduceLT, Int.reduceLT, Int.reduceLE, Int.reduceToNat, Int.reduceAdd, Int.reduceSub, Int.reduceNeg, hnm, Tryd.tf0, Tryd.tf3, Tryd.tf4, Tryd.tf5, Tryd.tf23, Tryd.tf25, Tryd.tf43, hl]); repeat (refine And.intro (by omega) ?_))
    | ((with_reducible first | apply WL_nil | apply W_label | apply W_skip | apply W_exit | apply W_ret); try simp only [seqK, blockK, scopeK, ↓reduceIte, Nat.reduceEqDiff])
    | (with_reducible apply W_cond_k; intro _ _ ea eb; (simp only [condK, cob, opnd, constPV, Nat.reduceEqDiff, Nat.reduceLT, ↓reduceIte, hcb, reduceCtorEq, forall_const, ne_eq]); subst ea eb; first | (refine ⟨fun hc => ?_, fun hc => ?_⟩ <;> first | (exfalso; omega) | (exfalso; exact hc trivial) | skip) | skip)
    | (with_reducible apply hnx; clear hnx nx)
    | (with_reducible refine And.intro (by omega) ?_)
    | (with_reducible refine And.intro ?_ ?_)
    | (clear hnx nx; with_reducible apply hnx; clear hnx nx)
    | (clear hnx nx; clear hnx nx; with_reducible apply hnx; clear hnx nx))
    refine W_loop_k (fun z τ => ∃ k : Nat, k ≤ 4 ∧ z = k ∧
        τ = ⟨fr 41 [(6, pint .i64 (63 + k : Nat)), (4, pint .i64 (S / 4 ^ (4 - k) : Nat)), (3, .ptr NB 0)], [(NB, ⟨43, false, 0, hC d S k⟩)]⟩) 4
      ⟨fr 41 [(6, pint .i64 67), (4, pint .i64 (S : Nat)), (3, .ptr NB 0)], [(NB, ⟨43, false, 0, hC d S 4⟩)]⟩ (by
      refine Wk_fr (by simp only [wkb, Nat.reduceEqDiff, Nat.reduceLT, ↓reduceIte]) ?_
      exact ⟨by simp, by simp [names, hnm]⟩) ⟨4, by omega, by omega, by
        rw [show S / 4 ^ (4 - 4) = S by simp]
        rfl⟩ ?_
    rintro z τ ⟨k, hk, rfl, rfl⟩ lp2 hlp2
    have hl3 := hC_len d S z
    by_cases hk0 : 0 < z
    · obtain ⟨k, rfl⟩ : ∃ k, z = k + 1 := ⟨z - 1, by omega⟩
      obtain ⟨q, hq⟩ : ∃ q, q = S / 4 ^ (4 - (k + 1)) := ⟨_, rfl⟩
      have hsm : q ≤ S := by rw [hq]; exact Nat.div_le_self _ _
      have hq1 : S / 4 ^ (4 - k) = q / 4 := by rw [hq, Nat.div_div_eq_div_mul, ← Nat.pow_succ, show (4 - (k + 1)).succ = 4 - k by omega]
      have hq2 : S / 4 ^ (3 - k) = q := by rw [hq, show 4 - (k + 1) = 3 - k by omega]
      have e1 : Int.tdiv (q : Int) 4 = ((S / 4 ^ (4 - k) : Nat) : Int) := by
        rw [Int.tdiv_eq_ediv_of_nonneg (Int.natCast_nonneg _), hq1]
        omega
      have e2 : Int.tmod (q : Int) 4 = ((S / 4 ^ (3 - k) % 4 : Nat) : Int) := by
        rw [Int.tmod_eq_emod_of_nonneg (Int.natCast_nonneg _), hq2]
        omega
      rw [← hq]
      have e5 := hC_put (d := d) (s := S) (show k < 4 by omega)
      rw [show 64 + k = 63 + (k + 1) by omega] at e5
      have e9 : (63 : Int) + ((k : Int) + 1) - 1 = 63 + (k : Int) := by omega
      repeat' (first
    | (with_reducible apply W_seq_k; intro nx hnx)
    | (with_reducible first | apply W_block | apply W_scope)
    | (with_reducible refine W_prune 255 ?_; simp only [prb, Nat.reducePow, Nat.reduceDiv, Nat.reduceMod, Nat.reduceBEq]; with_reducible apply W_region_l)
    | ((first | (with_reducible apply WL_op; intro nx hnx) | with_reducible refine Ev_out ?_ | (with_reducible refine pfresh_k hnm fun nm hnm => ?_; (try simp only [fmb] at hnm)) | (with_reducible refine pborn_mu hnm fun nm hnm => ?_; (try simp only [fmb] at hnm))); try (simp (maxSteps := 2000000) (disch := omega) only [evb, evd, eve, constPV, seqK, blockK, scopeK, pbound, pelems, PV.mem?, PV.one, PV.cells, peqs, peq1, pkeys, List.set, Value.cells, ↓popG_eq, ↓pop.eq_1, ↓List.getElem?_map, ↓List.getElem?_cons_zero, ↓List.getElem?_cons_succ, Value.oneCell', Nat.reduceAdd, Nat.reduceMul, Nat.reduceSub, Nat.reduceLeDiff, Nat.reduceEqDiff, ↓reduceIte, ne_eq, reduceCtorEq, forall_const, exists_and_left, exists_eq_left', eq_self, Nat.reduceLT, Int.reduceLT, Int.reduceLE, Int.reduceToNat, Int.reduceAdd, Int.reduceSub, Int.reduceNeg, hnm, Tryd.tf0, Tryd.tf3, Tryd.tf4, Tryd.tf5, Tryd.tf23, Tryd.tf25, Tryd.tf43, hl3, e1, e2, e5]); repeat (refine And.intro (by omega) ?_))
    | ((with_reducible first | apply WL_nil | apply W_label | apply W_skip | apply W_exit | apply W_ret); try simp only [seqK, blockK, scopeK, ↓reduceIte, Nat.reduceEqDiff])
    | (with_reducible apply W_cond_k; intro _ _ ea eb; (simp only [condK, cob, opnd, constPV, Nat.reduceEqDiff, Nat.reduceLT, ↓reduceIte, hcb, reduceCtorEq, forall_const, ne_eq]); subst ea eb; first | (refine ⟨fun hc => ?_, fun hc => ?_⟩ <;> first | (exfalso; omega) | (exfalso; exact hc trivial) | skip) | skip)
    | (with_reducible apply hnx; clear hnx nx)
    | (with_reducible refine And.intro (by omega) ?_)
    | (with_reducible refine And.intro ?_ ?_)
    | (clear hnx nx; with_reducible apply hnx; clear hnx nx)
    | (clear hnx nx; clear hnx nx; with_reducible apply hnx; clear hnx nx))
      all_goals first
        | exact rfl
        | (exfalso
           omega)
        | (refine hlp2 _ k _ (by omega) ?_ ⟨k, by omega, rfl, rfl⟩
           refine Wk_fr (by simp only [wkb, Nat.reduceEqDiff, Nat.reduceLT, ↓reduceIte, e9]) ?_
           exact ⟨by simp, by simp [names]⟩)
    · obtain rfl : z = 0 := by omega
      rw [hz] at hl3 ⊢
      repeat' (first
    | (with_reducible apply W_seq_k; intro nx hnx)
    | (with_reducible first | apply W_block | apply W_scope)
    | (with_reducible refine W_prune 255 ?_; simp only [prb, Nat.reducePow, Nat.reduceDiv, Nat.reduceMod, Nat.reduceBEq]; with_reducible apply W_region_l)
    | ((first | (with_reducible apply WL_op; intro nx hnx) | with_reducible refine Ev_out ?_ | (with_reducible refine pfresh_k hnm fun nm hnm => ?_; (try simp only [fmb] at hnm)) | (with_reducible refine pborn_mu hnm fun nm hnm => ?_; (try simp only [fmb] at hnm))); try (simp (maxSteps := 2000000) (disch := omega) only [evb, evd, eve, constPV, seqK, blockK, scopeK, pbound, pelems, PV.mem?, PV.one, PV.cells, peqs, peq1, pkeys, List.set, Value.cells, ↓popG_eq, ↓pop.eq_1, ↓List.getElem?_map, ↓List.getElem?_cons_zero, ↓List.getElem?_cons_succ, Value.oneCell', Nat.reduceAdd, Nat.reduceMul, Nat.reduceSub, Nat.reduceLeDiff, Nat.reduceEqDiff, ↓reduceIte, ne_eq, reduceCtorEq, forall_const, exists_and_left, exists_eq_left', eq_self, Nat.reduceLT, Int.reduceLT, Int.reduceLE, Int.reduceToNat, Int.reduceAdd, Int.reduceSub, Int.reduceNeg, hnm, Tryd.tf0, Tryd.tf3, Tryd.tf4, Tryd.tf5, Tryd.tf23, Tryd.tf25, Tryd.tf43, hl3]); repeat (refine And.intro (by omega) ?_))
    | ((with_reducible first | apply WL_nil | apply W_label | apply W_skip | apply W_exit | apply W_ret); try simp only [seqK, blockK, scopeK, ↓reduceIte, Nat.reduceEqDiff])
    | (with_reducible apply W_cond_k; intro _ _ ea eb; (simp only [condK, cob, opnd, constPV, Nat.reduceEqDiff, Nat.reduceLT, ↓reduceIte, hcb, reduceCtorEq, forall_const, ne_eq]); subst ea eb; first | (refine ⟨fun hc => ?_, fun hc => ?_⟩ <;> first | (exfalso; omega) | (exfalso; exact hc trivial) | skip) | skip)
    | (with_reducible apply hnx; clear hnx nx)
    | (with_reducible refine And.intro (by omega) ?_)
    | (with_reducible refine And.intro ?_ ?_)
    | (clear hnx nx; with_reducible apply hnx; clear hnx nx)
    | (clear hnx nx; clear hnx nx; with_reducible apply hnx; clear hnx nx))
      all_goals first
        | exact rfl
        | (exfalso
           omega)
        | (refine hfin _ _ (Fin_ret1 rfl (Sub_refl (by simp [names])) ?_); simp only [List.getD_cons_zero, List.getD_cons_succ, fr_getD_cons, fr_getD_nil, Nat.reduceEqDiff, Nat.reduceLT, ↓reduceIte]
           exact ⟨_, rfl, rfl⟩)
end Go.PM

namespace Go.PM
open Go.Proofs
attribute [local irreducible] W PCalls pcall pcallI WL
theorem digF_len (d : List UInt8) : (digF d).length = 68 := by simp [digF, chk]
theorem dig_c (G : Globs) (d : List UInt8) (hd : d.length = 16) : PCalls Tryd.prog G 10 [.agg (d.map pbyte)] [] (fun res H => res = .list 1 ((digF d).map pn') ∧ H = []) := by
  have hl := digF_len d
  refine (dig_r G d hd).px fun res H h => ?_
  obtain ⟨N, rfl, rfl⟩ := h
  refine ⟨_, _, Px.freeze (.sub N 1 0 68) _ N (o := ⟨43, false, 0, (digF d).map pn'⟩) (by simp [look]) (by simp [frzOk, del]), ?_, ?_⟩
  · have : List.take 68 ((digF d).map pn') = (digF d).map pn' := List.take_of_length_le (by rw [List.length_map]; omega)
    simp [PM.frz, frz1, elemsOf, hl, this]
  · simp [frzH, del]
/-- The first digits, as cells. -/
def preG (d : List UInt8) (n : Nat) : List PV := (List.range n).map fun j => pint .i64 (dig d j : Nat)
theorem preG_len (d : List UInt8) (n : Nat) : (preG d n).length = n := by simp [preG]
theorem preG_zero (d : List UInt8) : preG d 0 = [] := rfl
theorem preG_succ (d : List UInt8) (n : Nat) : preG d (n + 1) = preG d n ++ [pint .i64 (dig d n : Nat)] := by
  simp [preG, List.range_succ]
theorem preG_all (d : List UInt8) : preG d 64 ++ [pint .i64 (sumD d 64 / 64 % 4 : Nat), pint .i64 (sumD d 64 / 16 % 4 : Nat), pint .i64 (sumD d 64 / 4 % 4 : Nat), pint .i64 (sumD d 64 % 4 : Nat)] = (digF d).map pn' := by
  simp [preG, digF, chk, pn']
theorem dig4 (d : List UInt8) (i k : Nat) (x : UInt8) (h : d[i]? = some x) (hk : k < 4) : dig d (4 * i + k) = x.toNat / 4 ^ (3 - k) % 4 := by
  rw [dig, show (4 * i + k) / 4 = i by omega, show (4 * i + k) % 4 = k by omega, List.getD_eq_getElem?_getD, h]
  rfl
theorem dq_op : ∀ x : _root_.Fin 256, IntKind.i64.wrap ((x.val : Nat) : Int) = ((x.val : Nat) : Int) ∧ IntKind.i64.wrap (Int.tdiv ((x.val : Nat) : Int) 64) = ((x.val / 4 ^ 3 % 4 : Nat) : Int) ∧ (IntKind.i64.wrap (Int.tdiv ((x.val : Nat) : Int) 16)).tmod 4 = ((x.val / 4 ^ 2 % 4 : Nat) : Int) ∧
    (IntKind.i64.wrap (Int.tdiv ((x.val : Nat) : Int) 4)).tmod 4 = ((x.val / 4 ^ 1 % 4 : Nat) : Int) ∧ ((x.val : Nat) : Int).tmod 4 = ((x.val / 4 ^ 0 % 4 : Nat) : Int) := by decide +kernel
attribute [local irreducible] preG
set_option maxRecDepth 100000 in
set_option maxHeartbeats 8000000 in
theorem rdig_r (G : Globs) (d : List UInt8) (hd : d.length = 16) : PCalls Tryd.prog G 11 [.agg (d.map pbyte)] [] (fun res H => ∃ N, res = .row N 1 68 ∧ H = [(N, ⟨3, true, 1, (digF d).map pn'⟩)]) := by
  have hl0 : (d.map pbyte).length = 16 := by rw [List.length_map, hd]
  have ho0 := all_one_byte d
  (refine PCalls_f Tryd.func11 rfl Tryd.ntmps11 Tryd.results11 (by simp) fun fin hfin => ?_; have hnm : True := trivial; simp (maxSteps := 2000000) (disch := omega) only [evb, evd, eve, constPV, seqK, blockK, scopeK, pbound, pelems, PV.mem?, PV.one, PV.cells, peqs, peq1, pkeys, List.set, Value.cells, ↓popG_eq, ↓pop.eq_1, ↓List.getElem?_map, ↓List.getElem?_cons_zero, ↓List.getElem?_cons_succ, Value.oneCell', Nat.reduceAdd, Nat.reduceMul, Nat.reduceSub, Nat.reduceLeDiff, Nat.reduceEqDiff, ↓reduceIte, ne_eq, reduceCtorEq, forall_const, exists_and_left, exists_eq_left', eq_self, Nat.reduceLT, Int.reduceLT, Int.reduceLE, Int.reduceToNat, Int.reduceAdd, Int.reduceSub, Int.reduceNeg, hnm, Tryd.tf0, Tryd.tf1, Tryd.tf3, Tryd.tf4, Tryd.tf5, Tryd.tf23, Tryd.tf25])
  repeat' (first
    | (with_reducible apply W_seq_k; intro nx hnx)
    | (with_reducible first | apply W_block | apply W_scope)
    | (with_reducible refine W_prune 511 ?_; simp only [prb, Nat.reducePow, Nat.reduceDiv, Nat.reduceMod, Nat.reduceBEq]; with_reducible apply W_region_l)
    | ((first | (with_reducible apply WL_op; intro nx hnx) | with_reducible refine Ev_out ?_ | (with_reducible refine pfresh_k hnm fun nm hnm => ?_; (try simp only [fmb] at hnm)) | (with_reducible refine pborn_mu hnm fun nm hnm => ?_; (try simp only [fmb] at hnm))); try (simp (maxSteps := 2000000) (disch := omega) only [evb, evd, eve, constPV, seqK, blockK, scopeK, pbound, pelems, PV.mem?, PV.one, PV.cells, peqs, peq1, pkeys, List.set, Value.cells, ↓popG_eq, ↓pop.eq_1, ↓List.getElem?_map, ↓List.getElem?_cons_zero, ↓List.getElem?_cons_succ, Value.oneCell', Nat.reduceAdd, Nat.reduceMul, Nat.reduceSub, Nat.reduceLeDiff, Nat.reduceEqDiff, ↓reduceIte, ne_eq, reduceCtorEq, forall_const, exists_and_left, exists_eq_left', eq_self, Nat.reduceLT, Int.reduceLT, Int.reduceLE, Int.reduceToNat, Int.reduceAdd, Int.reduceSub, Int.reduceNeg, hnm, Tryd.tf0, Tryd.tf1, Tryd.tf3, Tryd.tf4, Tryd.tf5, Tryd.tf23, Tryd.tf25, hl0, ho0]); repeat (refine And.intro (by omega) ?_))
    | ((with_reducible first | apply WL_nil | apply W_label | apply W_skip | apply W_exit | apply W_ret); try simp only [seqK, blockK, scopeK, ↓reduceIte, Nat.reduceEqDiff])
    | (with_reducible apply W_cond_k; intro _ _ ea eb; (simp only [condK, cob, opnd, constPV, Nat.reduceEqDiff, Nat.reduceLT, ↓reduceIte, hcb, reduceCtorEq, forall_const, ne_eq]); subst ea eb; first | (refine ⟨fun hc => ?_, fun hc => ?_⟩ <;> first | (exfalso; omega) | (exfalso; exact hc trivial) | skip) | skip)
    | (with_reducible apply hnx; clear hnx nx)
    | (with_reducible refine And.intro (by omega) ?_)
    | (with_reducible refine And.intro ?_ ?_)
    | (clear hnx nx; with_reducible apply hnx; clear hnx nx)
    | (clear hnx nx; clear hnx nx; with_reducible apply hnx; clear hnx nx))
  refine W_adopt_f 3 3 1 (by simp only [fr_getD_cons, Nat.reduceEqDiff, Nat.reduceLT, ↓reduceIte]) fun D0 hD0 => ?_
  obtain ⟨N1, hN1⟩ : ∃ N, N = nm := ⟨_, rfl⟩
  subst hN1
  have hD : ¬ D0 = N1 := by simpa [names] using hD0
  refine W_loop_k (fun z τ => ∃ (i : Nat) (N : Int), i ≤ 16 ∧ z = 16 - i ∧ ¬ N = N1 ∧
      τ = ⟨fr 59 [(3, .row N 1 (4 * i)), (4, pint .i64 (sumD d (4 * i) : Nat)), (5, pint .i64 i), (1, .ptr N1 0)], [(N, ⟨3, true, 1, preG d (4 * i)⟩), (N1, ⟨23, false, 0, d.map pbyte⟩)]⟩) 16
    ⟨fr 59 [(3, .row D0 1 0), (4, pint .i64 (0 : Nat)), (5, pint .i64 (0 : Nat)), (1, .ptr N1 0)], [(D0, ⟨3, true, 1, []⟩), (N1, ⟨23, false, 0, d.map pbyte⟩)]⟩ (by
    refine Wk_fr (by simp only [wkb, Nat.reduceEqDiff, Nat.reduceLT, ↓reduceIte]) ?_
    exact ⟨by simp, by simpa [names] using hD⟩) ⟨0, D0, by omega, by omega, hD, by rw [Nat.mul_zero, preG_zero]; rfl⟩ ?_
  rintro z τ ⟨i, N, hi, rfl, hN, rfl⟩ lp hlp
  clear hnm
  have hnm : ¬ N = N1 ∧ ¬ N1 = N := ⟨hN, fun e => hN e.symm⟩
  have hs0 := sumD_le d (4 * i)
  have hpl0 := preG_len d (4 * i)
  by_cases hik : i < 16
  · obtain ⟨x, hg⟩ : ∃ x, d[i]? = some x := ⟨_, List.getElem?_eq_getElem (show i < d.length by omega)⟩
    have hx := x.toNat_lt
    obtain ⟨hw, q0, q1, q2, q3⟩ := dq_op ⟨x.toNat, by omega⟩
    simp only at hw q0 q1 q2 q3
    rw [← dig4 d i 0 x hg (by omega)] at q0
    rw [← dig4 d i 1 x hg (by omega)] at q1
    rw [← dig4 d i 2 x hg (by omega)] at q2
    rw [← dig4 d i 3 x hg (by omega)] at q3
    clear hx
    repeat' (first
    | (with_reducible apply W_seq_k; intro nx hnx)
    | (with_reducible first | apply W_block | apply W_scope)
    | (with_reducible refine W_prune 511 ?_; simp only [prb, Nat.reducePow, Nat.reduceDiv, Nat.reduceMod, Nat.reduceBEq]; with_reducible apply W_region_l)
    | ((first | (with_reducible apply WL_op; intro nx hnx) | with_reducible refine Ev_out ?_ | (with_reducible refine pfresh_k hnm fun nm hnm => ?_; (try simp only [fmb] at hnm)) | (with_reducible refine pborn_mu hnm fun nm hnm => ?_; (try simp only [fmb] at hnm))); try (simp (maxSteps := 2000000) (disch := omega) only [evb, evd, eve, constPV, seqK, blockK, scopeK, pbound, pelems, PV.mem?, PV.one, PV.cells, peqs, peq1, pkeys, List.set, Value.cells, ↓popG_eq, ↓pop.eq_1, ↓List.getElem?_map, ↓List.getElem?_cons_zero, ↓List.getElem?_cons_succ, Value.oneCell', Nat.reduceAdd, Nat.reduceMul, Nat.reduceSub, Nat.reduceLeDiff, Nat.reduceEqDiff, ↓reduceIte, ne_eq, reduceCtorEq, forall_const, exists_and_left, exists_eq_left', eq_self, Nat.reduceLT, Int.reduceLT, Int.reduceLE, Int.reduceToNat, Int.reduceAdd, Int.reduceSub, Int.reduceNeg, hnm, Tryd.tf0, Tryd.tf1, Tryd.tf3, Tryd.tf4, Tryd.tf5, Tryd.tf23, Tryd.tf25, hl0, hg, Option.map_some, hw, q0, q1, q2, q3, hpl0]); repeat (refine And.intro (by omega) ?_))
    | ((with_reducible first | apply WL_nil | apply W_label | apply W_skip | apply W_exit | apply W_ret); try simp only [seqK, blockK, scopeK, ↓reduceIte, Nat.reduceEqDiff])
    | (with_reducible apply W_cond_k; intro _ _ ea eb; (simp only [condK, cob, opnd, constPV, Nat.reduceEqDiff, Nat.reduceLT, ↓reduceIte, hcb, reduceCtorEq, forall_const, ne_eq]); subst ea eb; first | (refine ⟨fun hc => ?_, fun hc => ?_⟩ <;> first | (exfalso; omega) | (exfalso; exact hc trivial) | skip) | skip)
    | (with_reducible apply hnx; clear hnx nx)
    | (with_reducible refine And.intro (by omega) ?_)
    | (with_reducible refine And.intro ?_ ?_)
    | (clear hnx nx; with_reducible apply hnx; clear hnx nx)
    | (clear hnx nx; clear hnx nx; with_reducible apply hnx; clear hnx nx))
    all_goals first
      | exact rfl
      | (exfalso
         omega)
      | skip
    obtain ⟨M, hM⟩ : ∃ M, M = nm := ⟨_, rfl⟩
    subst hM
    have hMn : ¬ M = N1 := by simp [hnm]
    obtain ⟨L, hL⟩ : ∃ L, L = [pint .i64 (dig d (4 * i + 0) : Nat), pint .i64 (dig d (4 * i + 1) : Nat), pint .i64 (dig d (4 * i + 2) : Nat), pint .i64 (dig d (4 * i + 3) : Nat)] := ⟨_, rfl⟩
    have hLl : L.length = 4 := by rw [hL]; rfl
    have hLg : ∀ k, k < 4 → L[k]? = some (pint .i64 (dig d (4 * i + k) : Nat)) := by
      intro k hk
      have : k = 0 ∨ k = 1 ∨ k = 2 ∨ k = 3 := by omega
      rcases this with rfl | rfl | rfl | rfl <;> rw [hL] <;> rfl
    refine W_loop_k (fun z τ => ∃ (k : Nat) (N : Int), k ≤ 4 ∧ z = 4 - k ∧ ¬ N = N1 ∧ ¬ N = M ∧
        τ = ⟨fr 59 [(3, .row N 1 (4 * i + k)), (4, pint .i64 (sumD d (4 * i + k) : Nat)), (5, pint .i64 i), (1, .ptr N1 0), (7, .row M 1 4), (8, pint .i64 k)], [(M, ⟨3, true, 1, L⟩), (N, ⟨3, true, 1, preG d (4 * i + k)⟩), (N1, ⟨23, false, 0, d.map pbyte⟩)]⟩) 4
      ⟨fr 59 [(3, .row N 1 (4 * i)), (4, pint .i64 (sumD d (4 * i) : Nat)), (5, pint .i64 i), (1, .ptr N1 0), (7, .row M 1 4), (8, pint .i64 (0 : Nat))], [(M, ⟨3, true, 1, L⟩), (N, ⟨3, true, 1, preG d (4 * i)⟩), (N1, ⟨23, false, 0, d.map pbyte⟩)]⟩ (by
      rw [hL]
      refine Wk_fr (by simp only [wkb, Nat.reduceEqDiff, Nat.reduceLT, ↓reduceIte]) ?_
      exact Sub_refl (by simp [names, hnm])) ⟨0, N, by omega, by omega, hN, by simp [hnm], rfl⟩ ?_
    rintro z τ ⟨k, N', hk, rfl, hN', hNM, rfl⟩ lp2 hlp2
    clear hnm
    have hnm : (¬ N' = N1 ∧ ¬ N1 = N') ∧ (¬ N' = M ∧ ¬ M = N') ∧ ¬ M = N1 ∧ ¬ N1 = M := ⟨⟨hN', fun e => hN' e.symm⟩, ⟨hNM, fun e => hNM e.symm⟩, hMn, fun e => hMn e.symm⟩
    have hs1 := sumD_le d (4 * i + k)
    have hpl := preG_len d (4 * i + k)
    by_cases hkk : k < 4
    · have hLk := hLg k hkk
      have hdl := dig_lt d (4 * i + k)
      have e7 : sumD d (4 * i + (k + 1)) = sumD d (4 * i + k) + (3 - dig d (4 * i + k)) := rfl
      have e8 : ((sumD d (4 * i + k) : Nat) : Int) + 3 - ((dig d (4 * i + k) : Nat) : Int) = ((sumD d (4 * i + (k + 1)) : Nat) : Int) := by omega
      have e9 := preG_succ d (4 * i + k)
      repeat' (first
    | (with_reducible apply W_seq_k; intro nx hnx)
    | (with_reducible first | apply W_block | apply W_scope)
    | (with_reducible refine W_prune 511 ?_; simp only [prb, Nat.reducePow, Nat.reduceDiv, Nat.reduceMod, Nat.reduceBEq]; with_reducible apply W_region_l)
    | ((first | (with_reducible apply WL_op; intro nx hnx) | with_reducible refine Ev_out ?_ | (with_reducible refine pfresh_k hnm fun nm hnm => ?_; (try simp only [fmb] at hnm)) | (with_reducible refine pborn_mu hnm fun nm hnm => ?_; (try simp only [fmb] at hnm))); try (simp (maxSteps := 2000000) (disch := omega) only [evb, evd, eve, constPV, seqK, blockK, scopeK, pbound, pelems, PV.mem?, PV.one, PV.cells, peqs, peq1, pkeys, List.set, Value.cells, ↓popG_eq, ↓pop.eq_1, ↓List.getElem?_map, ↓List.getElem?_cons_zero, ↓List.getElem?_cons_succ, Value.oneCell', Nat.reduceAdd, Nat.reduceMul, Nat.reduceSub, Nat.reduceLeDiff, Nat.reduceEqDiff, ↓reduceIte, ne_eq, reduceCtorEq, forall_const, exists_and_left, exists_eq_left', eq_self, Nat.reduceLT, Int.reduceLT, Int.reduceLE, Int.reduceToNat, Int.reduceAdd, Int.reduceSub, Int.reduceNeg, hnm, Tryd.tf0, Tryd.tf1, Tryd.tf3, Tryd.tf4, Tryd.tf5, Tryd.tf23, Tryd.tf25, hLl, hLk, hpl, e8]); repeat (refine And.intro (by omega) ?_))
    | ((with_reducible first | apply WL_nil | apply W_label | apply W_skip | apply W_exit | apply W_ret); try simp only [seqK, blockK, scopeK, ↓reduceIte, Nat.reduceEqDiff])
    | (with_reducible apply W_cond_k; intro _ _ ea eb; (simp only [condK, cob, opnd, constPV, Nat.reduceEqDiff, Nat.reduceLT, ↓reduceIte, hcb, reduceCtorEq, forall_const, ne_eq]); subst ea eb; first | (refine ⟨fun hc => ?_, fun hc => ?_⟩ <;> first | (exfalso; omega) | (exfalso; exact hc trivial) | skip) | skip)
    | (with_reducible apply hnx; clear hnx nx)
    | (with_reducible refine And.intro (by omega) ?_)
    | (with_reducible refine And.intro ?_ ?_)
    | (clear hnx nx; with_reducible apply hnx; clear hnx nx)
    | (clear hnx nx; clear hnx nx; with_reducible apply hnx; clear hnx nx))
      all_goals first
        | exact rfl
        | (exfalso
           omega)
        | (refine hlp2 _ (4 - (k + 1)) _ (by omega) ?_ ⟨k + 1, nm, by omega, rfl, by simp [hnm], by simp [hnm], rfl⟩
           rw [← Nat.add_assoc, e9]
           refine Wk_fr (by simp only [wkb, Nat.reduceEqDiff, Nat.reduceLT, ↓reduceIte]) ?_
           exact ⟨by simp, by simp [names, hnm]⟩)
    · obtain rfl : k = 4 := by omega
      repeat' (first
    | (with_reducible apply W_seq_k; intro nx hnx)
    | (with_reducible first | apply W_block | apply W_scope)
    | (with_reducible refine W_prune 511 ?_; simp only [prb, Nat.reducePow, Nat.reduceDiv, Nat.reduceMod, Nat.reduceBEq]; with_reducible apply W_region_l)
    | ((first | (with_reducible apply WL_op; intro nx hnx) | with_reducible refine Ev_out ?_ | (with_reducible refine pfresh_k hnm fun nm hnm => ?_; (try simp only [fmb] at hnm)) | (with_reducible refine pborn_mu hnm fun nm hnm => ?_; (try simp only [fmb] at hnm))); try (simp (maxSteps := 2000000) (disch := omega) only [evb, evd, eve, constPV, seqK, blockK, scopeK, pbound, pelems, PV.mem?, PV.one, PV.cells, peqs, peq1, pkeys, List.set, Value.cells, ↓popG_eq, ↓pop.eq_1, ↓List.getElem?_map, ↓List.getElem?_cons_zero, ↓List.getElem?_cons_succ, Value.oneCell', Nat.reduceAdd, Nat.reduceMul, Nat.reduceSub, Nat.reduceLeDiff, Nat.reduceEqDiff, ↓reduceIte, ne_eq, reduceCtorEq, forall_const, exists_and_left, exists_eq_left', eq_self, Nat.reduceLT, Int.reduceLT, Int.reduceLE, Int.reduceToNat, Int.reduceAdd, Int.reduceSub, Int.reduceNeg, hnm, Tryd.tf0, Tryd.tf1, Tryd.tf3, Tryd.tf4, Tryd.tf5, Tryd.tf23, Tryd.tf25, hpl, hLl]); repeat (refine And.intro (by omega) ?_))
    | ((with_reducible first | apply WL_nil | apply W_label | apply W_skip | apply W_exit | apply W_ret); try simp only [seqK, blockK, scopeK, ↓reduceIte, Nat.reduceEqDiff])
    | (with_reducible apply W_cond_k; intro _ _ ea eb; (simp only [condK, cob, opnd, constPV, Nat.reduceEqDiff, Nat.reduceLT, ↓reduceIte, hcb, reduceCtorEq, forall_const, ne_eq]); subst ea eb; first | (refine ⟨fun hc => ?_, fun hc => ?_⟩ <;> first | (exfalso; omega) | (exfalso; exact hc trivial) | skip) | skip)
    | (with_reducible apply hnx; clear hnx nx)
    | (with_reducible refine And.intro (by omega) ?_)
    | (with_reducible refine And.intro ?_ ?_)
    | (clear hnx nx; with_reducible apply hnx; clear hnx nx)
    | (clear hnx nx; clear hnx nx; with_reducible apply hnx; clear hnx nx))
      all_goals first
        | exact rfl
        | (exfalso
           omega)
        | (refine hlp _ (16 - (i + 1)) _ (by omega) ?_ ⟨i + 1, N', by omega, rfl, hN', rfl⟩
           rw [show 4 * (i + 1) = 4 * i + 4 by omega]
           refine Wk_fr (by simp only [wkb, Nat.reduceEqDiff, Nat.reduceLT, ↓reduceIte]) ?_
           exact ⟨by simp, by simp [names, hnm]⟩)
  · obtain rfl : i = 16 := by omega
    have hall := preG_all d
    have hs := sumD_le d 64
    simp only [show 4 * 16 = 64 from rfl] at *
    generalize digF d = F at *
    generalize sumD d 64 = S at *
    obtain ⟨r4, r0, r1, r2, r3⟩ := dq_op ⟨S, by omega⟩
    simp only [Nat.reducePow, Nat.div_one] at r4 r0 r1 r2 r3
    repeat' (first
    | (with_reducible apply W_seq_k; intro nx hnx)
    | (with_reducible first | apply W_block | apply W_scope)
    | (with_reducible refine W_prune 511 ?_; simp only [prb, Nat.reducePow, Nat.reduceDiv, Nat.reduceMod, Nat.reduceBEq]; with_reducible apply W_region_l)
    | ((first | (with_reducible apply WL_op; intro nx hnx) | with_reducible refine Ev_out ?_ | (with_reducible refine pfresh_k hnm fun nm hnm => ?_; (try simp only [fmb] at hnm)) | (with_reducible refine pborn_mu hnm fun nm hnm => ?_; (try simp only [fmb] at hnm))); try (simp (maxSteps := 2000000) (disch := omega) only [evb, evd, eve, constPV, seqK, blockK, scopeK, pbound, pelems, PV.mem?, PV.one, PV.cells, peqs, peq1, pkeys, List.set, Value.cells, ↓popG_eq, ↓pop.eq_1, ↓List.getElem?_map, ↓List.getElem?_cons_zero, ↓List.getElem?_cons_succ, Value.oneCell', Nat.reduceAdd, Nat.reduceMul, Nat.reduceSub, Nat.reduceLeDiff, Nat.reduceEqDiff, ↓reduceIte, ne_eq, reduceCtorEq, forall_const, exists_and_left, exists_eq_left', eq_self, Nat.reduceLT, Int.reduceLT, Int.reduceLE, Int.reduceToNat, Int.reduceAdd, Int.reduceSub, Int.reduceNeg, hnm, Tryd.tf0, Tryd.tf1, Tryd.tf3, Tryd.tf4, Tryd.tf5, Tryd.tf23, Tryd.tf25, hpl0, r0, r1, r2, r3]); repeat (refine And.intro (by omega) ?_))
    | ((with_reducible first | apply WL_nil | apply W_label | apply W_skip | apply W_exit | apply W_ret); try simp only [seqK, blockK, scopeK, ↓reduceIte, Nat.reduceEqDiff])
    | (with_reducible apply W_cond_k; intro _ _ ea eb; (simp only [condK, cob, opnd, constPV, Nat.reduceEqDiff, Nat.reduceLT, ↓reduceIte, hcb, reduceCtorEq, forall_const, ne_eq]); subst ea eb; first | (refine ⟨fun hc => ?_, fun hc => ?_⟩ <;> first | (exfalso; omega) | (exfalso; exact hc trivial) | skip) | skip)
    | (with_reducible apply hnx; clear hnx nx)
    | (with_reducible refine And.intro (by omega) ?_)
    | (with_reducible refine And.intro ?_ ?_)
    | (clear hnx nx; with_reducible apply hnx; clear hnx nx)
    | (clear hnx nx; clear hnx nx; with_reducible apply hnx; clear hnx nx))
    all_goals first
      | exact rfl
      | (exfalso
         omega)
      | (refine hfin _ _ (Fin_ret1 rfl ((show Sub [(nm, ⟨3, true, 1, F.map pn'⟩)] _ from ⟨by simp [← hall], by simp [names, hnm]⟩)) ?_); simp only [List.getD_cons_zero, List.getD_cons_succ, fr_getD_cons, fr_getD_nil, Nat.reduceEqDiff, Nat.reduceLT, ↓reduceIte]
         refine ⟨nm, ?_, ?_⟩
         · rfl
         · rfl)
end Go.PM

namespace Go.PM
open Go.Proofs
attribute [local irreducible] W PCalls pcall pcallI WL
theorem rdig_c (G : Globs) (d : List UInt8) (hd : d.length = 16) : PCalls Tryd.prog G 11 [.agg (d.map pbyte)] [] (fun res H => res = .list 1 ((digF d).map pn') ∧ H = []) :=
  (rdig_r G d hd).frz_row (xs := (digF d).map pn') fun res H h => by
    obtain ⟨N, h1, h2⟩ := h
    exact ⟨N, 3, by rw [List.length_map, digF_len]; exact h1, h2⟩
/-- What is signed. -/
def digestF (p : List UInt8) (i : Int) (m : List UInt8) : List UInt8 := ofH 3 [p, intB i, m]
theorem digestF_len (p : List UInt8) (i : Int) (m : List UInt8) : (digestF p i m).length = 16 := ofH_len _ _
theorem all_lt3 {p : List UInt8 → Prop} {a b c : List UInt8} (h1 : p a) (h2 : p b) (h3 : p c) : ∀ x ∈ [a, b, c], p x := by
  intro x hx
  rcases List.mem_cons.1 hx with rfl | hx
  · exact h1
  · exact all_lt2 h2 h3 x hx
set_option maxRecDepth 100000 in
set_option maxHeartbeats 8000000 in
theorem hdig_c (G : Globs) (hG : G 1 = .iptr (KS.map pw) 0) (p : List UInt8) (i : Int) (m : List UInt8) (hp : p.length = 16) (hi : inR i) (hm : m.length ≤ 4000) :
    PCalls Tryd.prog G 16 [.agg (p.map pbyte), pint .i64 i, pstr m] [] (fun res H => res = .agg ((digestF p i m).map pbyte) ∧ H = []) := by
  have h9 := intB_len9 hi
  have hl1 : (p.map pbyte).length = 16 := by rw [List.length_map, hp]
  have o1 := all_one_byte p
  have t1 : List.take 16 (p.map pbyte) = p.map pbyte := List.take_of_length_le (by omega)
  have a1 := isByte_pb p
  have a2 := unb_pb p
  have b1 := isByte_pb (intB i)
  have b2 := unb_pb (intB i)
  have c1 := wint_c G i hi.1 hi.2
  have c := hof_c G hG 3 [p, intB i, m] (all_lt3 (by omega) (by omega) hm) (by simp)
  simp only [List.map_cons, List.map_nil] at c
  have hn : ofH 3 [p, intB i, m] = digestF p i m := rfl
  have hol := digestF_len p i m
  rw [hn] at c
  generalize digestF p i m = f at *
  generalize intB i = e at *
  have hone := all_one_byte f
  have hol2 : (f.map pbyte).length = 16 := by rw [List.length_map, hol]
  have t3 : List.take 16 (f.map pbyte) = f.map pbyte := List.take_of_length_le (by omega)
  (refine PCalls_f Tryd.func16 rfl Tryd.ntmps16 Tryd.results16 (by simp) fun fin hfin => ?_; have hnm : True := trivial; simp (maxSteps := 2000000) (disch := omega) only [evb, evd, eve, constPV, seqK, blockK, scopeK, pbound, pelems, PV.mem?, PV.one, PV.cells, peqs, peq1, pkeys, List.set, Value.cells, ↓popG_eq, ↓pop.eq_1, ↓List.getElem?_map, ↓List.getElem?_cons_zero, ↓List.getElem?_cons_succ, Value.oneCell', Nat.reduceAdd, Nat.reduceMul, Nat.reduceSub, Nat.reduceLeDiff, Nat.reduceEqDiff, ↓reduceIte, ne_eq, reduceCtorEq, forall_const, exists_and_left, exists_eq_left', eq_self, Nat.reduceLT, Int.reduceLT, Int.reduceLE, Int.reduceToNat, Int.reduceAdd, Int.reduceSub, Int.reduceNeg, hnm, Tryd.tf0, Tryd.tf3, Tryd.tf5, Tryd.tf9, Tryd.tf23, Tryd.tf52, Tryd.tf66, Tryd.call26, Tryd.call34])
  repeat' (first
    | (with_reducible apply W_seq_k; intro nx hnx)
    | (with_reducible first | apply W_block | apply W_scope)
    | (with_reducible refine W_prune 79 ?_; simp only [prb, Nat.reducePow, Nat.reduceDiv, Nat.reduceMod, Nat.reduceBEq]; first | (with_reducible apply W_region_l) | with_reducible refine W_region_draw (id := 1) 3 (.op 0 true (.op 1 true (.op 2 true (.op 5 true (.op 3 true (.op 4 true (.op 6 false (.op 7 false (.op 8 false (.done)))))))))) (by kernel_rfl) ?_)
    | (with_reducible refine WL_born (by simp) rfl (by simp) ?_; simp only [elemsOf, nl, List.map_cons, List.map_nil, Nat.reduceEqDiff, ↓reduceIte, List.take_succ_cons, List.take_zero, List.range_succ, List.range_zero, List.nil_append, List.cons_append, List.map_append, List.drop_succ_cons, List.drop_zero, Nat.reduceMul, Nat.zero_mul, Nat.one_mul, Nat.reduceAdd])
    | (with_reducible refine WL_bornH (by simp) (by simp) ?_ ?_ ?_; (· simp [frz, frz1, hnm]); (· simp [frz1, hnm, PV.one, Value.oneCell']); simp only [elemsOf, nl, List.map_cons, List.map_nil, Nat.reduceEqDiff, ↓reduceIte, List.take_succ_cons, List.take_zero, List.range_succ, List.range_zero, List.nil_append, List.cons_append, List.map_append, List.drop_succ_cons, List.drop_zero, Nat.reduceMul, Nat.zero_mul, Nat.one_mul, Nat.reduceAdd])
    | ((first | (with_reducible apply WL_op; intro nx hnx) | with_reducible refine Ev_out ?_ | (with_reducible apply popsD_op; intro nx hnx) | (with_reducible refine popsD_alt ?_ ?_; intro nx hnx) | (with_reducible refine pfresh_k hnm fun nm hnm => ?_; (try simp only [fmb] at hnm)) | (with_reducible refine pborn_im ?_; simp only [elemsOf, nl, List.map_cons, List.map_nil, Nat.reduceEqDiff, ↓reduceIte, List.take_succ_cons, List.take_zero, List.range_succ, List.range_zero, List.nil_append, List.cons_append, List.map_append, List.drop_succ_cons, List.drop_zero, Nat.reduceMul, Nat.zero_mul, Nat.one_mul, Nat.reduceAdd])); try (simp (maxSteps := 2000000) (disch := omega) only [evb, evd, eve, constPV, seqK, blockK, scopeK, pbound, pelems, PV.mem?, PV.one, PV.cells, peqs, peq1, pkeys, List.set, Value.cells, ↓popG_eq, ↓pop.eq_1, ↓List.getElem?_map, ↓List.getElem?_cons_zero, ↓List.getElem?_cons_succ, Value.oneCell', Nat.reduceAdd, Nat.reduceMul, Nat.reduceSub, Nat.reduceLeDiff, Nat.reduceEqDiff, ↓reduceIte, ne_eq, reduceCtorEq, forall_const, exists_and_left, exists_eq_left', eq_self, Nat.reduceLT, Int.reduceLT, Int.reduceLE, Int.reduceToNat, Int.reduceAdd, Int.reduceSub, Int.reduceNeg, hnm, Tryd.tf0, Tryd.tf3, Tryd.tf5, Tryd.tf9, Tryd.tf23, Tryd.tf52, Tryd.tf66, Tryd.call26, Tryd.call34, hl1, o1, t1, a1, a2, b1, b2, hol2, hone, t3]); repeat (refine And.intro (by omega) ?_))
    | ((with_reducible first | apply WL_nil | apply W_label | apply W_skip | apply W_exit | apply W_ret | apply popsD_done); try simp only [seqK, blockK, scopeK, ↓reduceIte, Nat.reduceEqDiff])
    | with_reducible exact popsD_stop
    | (with_reducible apply W_cond_k; intro _ _ ea eb; (simp only [condK, cob, opnd, constPV, Nat.reduceEqDiff, Nat.reduceLT, ↓reduceIte, hcb, reduceCtorEq, forall_const, ne_eq]); subst ea eb; first | (refine ⟨fun hc => ?_, fun hc => ?_⟩ <;> first | (exfalso; omega) | (exfalso; exact hc trivial) | skip) | skip)
    | (with_reducible apply hnx; clear hnx nx)
    | (with_reducible refine And.intro (by omega) ?_)
    | (with_reducible refine And.intro ?_ ?_)
    | (with_reducible refine pcall_k (c1) ?_; rintro _ _ ⟨rfl, rfl⟩ -; refine Ev_in ?_)
    | (with_reducible refine pcall_k (c) ?_; rintro _ _ ⟨rfl, rfl⟩ -; refine Ev_in ?_)
    | (clear hnx nx; with_reducible apply hnx; clear hnx nx)
    | (clear hnx nx; clear hnx nx; with_reducible apply hnx; clear hnx nx))
  all_goals first
    | exact rfl
    | (refine hfin _ _ ?_
       exact Fin_dig (n := nm) (by simp only [fr_getD_cons, Nat.reduceEqDiff, Nat.reduceLT, ↓reduceIte]) (by simp [look, hnm]) hol ⟨rfl, rfl⟩)
set_option maxRecDepth 100000 in
set_option maxHeartbeats 8000000 in
theorem rhdig_c (G : Globs) (hG : G 0 = .iptr (KS.map pw) 0) (p : List UInt8) (i : Int) (m : List UInt8) (hp : p.length = 16) (hi : inR i) (hm : m.length ≤ 4000) :
    PCalls Tryd.prog G 17 [.agg (p.map pbyte), pint .i64 i, pstr m] [] (fun res H => res = .agg ((digestF p i m).map pbyte) ∧ H = []) := by
  have h9 := intB_len9 hi
  have hl1 : (p.map pbyte).length = 16 := by rw [List.length_map, hp]
  have o1 := all_one_byte p
  have t1 : List.take 16 (p.map pbyte) = p.map pbyte := List.take_of_length_le (by omega)
  have b1 := isByte_pb (intB i)
  have b2 := unb_pb (intB i)
  have c1 := rint_c G i hi.1 hi.2
  have c := rof_c G hG 3 [p, intB i, m] (all_lt3 (by omega) (by omega) hm) (by simp)
  simp only [List.map_cons, List.map_nil] at c
  have hn : ofH 3 [p, intB i, m] = digestF p i m := rfl
  have hol := digestF_len p i m
  rw [hn] at c
  generalize digestF p i m = f at *
  generalize intB i = e at *
  have hone := all_one_byte f
  have hol2 : (f.map pbyte).length = 16 := by rw [List.length_map, hol]
  have t3 : List.take 16 (f.map pbyte) = f.map pbyte := List.take_of_length_le (by omega)
  (refine PCalls_f Tryd.func17 rfl Tryd.ntmps17 Tryd.results17 (by simp) fun fin hfin => ?_; have hnm : True := trivial; simp (maxSteps := 2000000) (disch := omega) only [evb, evd, eve, constPV, seqK, blockK, scopeK, pbound, pelems, PV.mem?, PV.one, PV.cells, peqs, peq1, pkeys, List.set, Value.cells, ↓popG_eq, ↓pop.eq_1, ↓List.getElem?_map, ↓List.getElem?_cons_zero, ↓List.getElem?_cons_succ, Value.oneCell', Nat.reduceAdd, Nat.reduceMul, Nat.reduceSub, Nat.reduceLeDiff, Nat.reduceEqDiff, ↓reduceIte, ne_eq, reduceCtorEq, forall_const, exists_and_left, exists_eq_left', eq_self, Nat.reduceLT, Int.reduceLT, Int.reduceLE, Int.reduceToNat, Int.reduceAdd, Int.reduceSub, Int.reduceNeg, hnm, Tryd.tf0, Tryd.tf3, Tryd.tf5, Tryd.tf9, Tryd.tf23, Tryd.tf52, Tryd.tf66, Tryd.call30, Tryd.call31, Tryd.call35])
  repeat' (first
    | (with_reducible apply W_seq_k; intro nx hnx)
    | (with_reducible first | apply W_block | apply W_scope)
    | (with_reducible refine W_prune 79 ?_; simp only [prb, Nat.reducePow, Nat.reduceDiv, Nat.reduceMod, Nat.reduceBEq]; with_reducible apply W_region_l)
    | (with_reducible refine WL_born (by simp) rfl (by simp) ?_; simp only [elemsOf, nl, List.map_cons, List.map_nil, Nat.reduceEqDiff, ↓reduceIte, List.take_succ_cons, List.take_zero, List.range_succ, List.range_zero, List.nil_append, List.cons_append, List.map_append, List.drop_succ_cons, List.drop_zero, Nat.reduceMul, Nat.zero_mul, Nat.one_mul, Nat.reduceAdd])
    | (with_reducible refine WL_bornH (by simp) (by simp) ?_ ?_ ?_; (· simp [frz, frz1, hnm]); (· simp [frz1, hnm, PV.one, Value.oneCell']); simp only [elemsOf, nl, List.map_cons, List.map_nil, Nat.reduceEqDiff, ↓reduceIte, List.take_succ_cons, List.take_zero, List.range_succ, List.range_zero, List.nil_append, List.cons_append, List.map_append, List.drop_succ_cons, List.drop_zero, Nat.reduceMul, Nat.zero_mul, Nat.one_mul, Nat.reduceAdd])
    | ((first | (with_reducible apply WL_op; intro nx hnx) | with_reducible refine Ev_out ?_ | (with_reducible refine pfresh_k hnm fun nm hnm => ?_; (try simp only [fmb] at hnm)) | (with_reducible refine pborn_im ?_; simp only [elemsOf, nl, List.map_cons, List.map_nil, Nat.reduceEqDiff, ↓reduceIte, List.take_succ_cons, List.take_zero, List.range_succ, List.range_zero, List.nil_append, List.cons_append, List.map_append, List.drop_succ_cons, List.drop_zero, Nat.reduceMul, Nat.zero_mul, Nat.one_mul, Nat.reduceAdd])); try (simp (maxSteps := 2000000) (disch := omega) only [evb, evd, eve, constPV, seqK, blockK, scopeK, pbound, pelems, PV.mem?, PV.one, PV.cells, peqs, peq1, pkeys, List.set, Value.cells, ↓popG_eq, ↓pop.eq_1, ↓List.getElem?_map, ↓List.getElem?_cons_zero, ↓List.getElem?_cons_succ, Value.oneCell', Nat.reduceAdd, Nat.reduceMul, Nat.reduceSub, Nat.reduceLeDiff, Nat.reduceEqDiff, ↓reduceIte, ne_eq, reduceCtorEq, forall_const, exists_and_left, exists_eq_left', eq_self, Nat.reduceLT, Int.reduceLT, Int.reduceLE, Int.reduceToNat, Int.reduceAdd, Int.reduceSub, Int.reduceNeg, hnm, Tryd.tf0, Tryd.tf3, Tryd.tf5, Tryd.tf9, Tryd.tf23, Tryd.tf52, Tryd.tf66, Tryd.call30, Tryd.call31, Tryd.call35, hl1, o1, t1, b1, b2, hol2, hone, t3]); repeat (refine And.intro (by omega) ?_))
    | ((with_reducible first | apply WL_nil | apply W_label | apply W_skip | apply W_exit | apply W_ret); try simp only [seqK, blockK, scopeK, ↓reduceIte, Nat.reduceEqDiff])
    | (with_reducible apply W_cond_k; intro _ _ ea eb; (simp only [condK, cob, opnd, constPV, Nat.reduceEqDiff, Nat.reduceLT, ↓reduceIte, hcb, reduceCtorEq, forall_const, ne_eq]); subst ea eb; first | (refine ⟨fun hc => ?_, fun hc => ?_⟩ <;> first | (exfalso; omega) | (exfalso; exact hc trivial) | skip) | skip)
    | (with_reducible apply hnx; clear hnx nx)
    | (with_reducible refine And.intro (by omega) ?_)
    | (with_reducible refine And.intro ?_ ?_)
    | (with_reducible refine pcall_k (c1) ?_; rintro _ _ ⟨rfl, rfl⟩ -; refine Ev_in ?_)
    | (with_reducible refine pcall_k (c) ?_; rintro _ _ ⟨rfl, rfl⟩ -; refine Ev_in ?_)
    | (with_reducible refine pcall_k (text_c G p hp) ?_; rintro _ _ ⟨rfl, rfl⟩ -; refine Ev_in ?_)
    | (clear hnx nx; with_reducible apply hnx; clear hnx nx)
    | (clear hnx nx; clear hnx nx; with_reducible apply hnx; clear hnx nx))
  all_goals first
    | exact rfl
    | (refine hfin _ _ ?_
       exact Fin_dig (n := nm) (by simp only [fr_getD_cons, Nat.reduceEqDiff, Nat.reduceLT, ↓reduceIte]) (by simp [look, hnm]) hol ⟨rfl, rfl⟩)
end Go.PM

namespace Go.PM
open Go.Proofs
attribute [local irreducible] W PCalls pcall pcallI WL
/-- The values of some chains, one behind the other. -/
def catF (vals : Nat → List UInt8) (n : Nat) : List UInt8 := (List.range n).flatMap vals
theorem catF_zero (vals : Nat → List UInt8) : catF vals 0 = [] := rfl
theorem catF_succ (vals : Nat → List UInt8) (n : Nat) : catF vals (n + 1) = catF vals n ++ vals n := by
  simp [catF, List.range_succ]
theorem catF_len {vals : Nat → List UInt8} (h : ∀ c, (vals c).length = 16) : ∀ n, (catF vals n).length = 16 * n
  | 0 => rfl
  | n + 1 => by rw [catF_succ, List.length_append, catF_len h n, h]; omega
/-- The lowest node for the values of all chains. -/
def leafF (vals : Nat → List UInt8) : List UInt8 := ofH 1 [ofH 9 [catF vals 68]]
theorem leafF_len (vals : Nat → List UInt8) : (leafF vals).length = 16 := ofH_len _ _
/-- The value of a chain at its top. -/
def topF (seed : List UInt8) (i : Int) (c : Nat) : List UInt8 := advF i c 0 (3 - 0 : Int).toNat (startF seed i c)
theorem topF_len (seed : List UInt8) (i : Int) (c : Nat) : (topF seed i c).length = 16 := advF_len _ _ _ _ _ (startF_len _ _ _)
theorem all_lt1 {p : List UInt8 → Prop} {a : List UInt8} (h1 : p a) : ∀ x ∈ [a], p x := by
  intro x hx
  rw [List.mem_singleton.1 hx]
  exact h1
end Go.PM

namespace Go.PM
open Go.Proofs
attribute [local irreducible] W PCalls pcall pcallI WL
set_option maxRecDepth 100000 in
set_option maxHeartbeats 8000000 in
theorem leaf_c (G : Globs) (hG : G 1 = .iptr (KS.map pw) 0) (f : FuncId) (caps : List PV) (vals : Nat → List UInt8) (hv : ∀ c, c < 68 → (vals c).length = 16) (hcall : callable Tryd.prog f = true)
    (hc : ∀ c : Nat, c < 68 → PCalls Tryd.prog G f (pint .i64 c :: caps) [] (fun res H => res = .agg ((vals c).map pbyte) ∧ H = [])) :
    PCalls Tryd.prog G 38 [.func f caps] [] (fun res H => res = .agg ((leafF vals).map pbyte) ∧ H = []) := by
  obtain ⟨Z, hZ⟩ : ∃ Z, Z = List.replicate 16 (pint .u8 0) := ⟨_, rfl⟩
  have hZ2 : [pint .u8 0, pint .u8 0, pint .u8 0, pint .u8 0, pint .u8 0, pint .u8 0, pint .u8 0, pint .u8 0, pint .u8 0, pint .u8 0, pint .u8 0, pint .u8 0, pint .u8 0, pint .u8 0, pint .u8 0, pint .u8 0] = Z := by rw [hZ]; rfl
  have hZl : Z.length = 16 := by rw [hZ]; rfl
  have hZd : List.drop 16 Z = [] := List.drop_of_length_le (by omega)
  have hZo : Z.all PV.one = true := by rw [hZ]; rfl
  (refine PCalls_f Tryd.func38 rfl Tryd.ntmps38 Tryd.results38 (by simp) fun fin hfin => ?_; have hnm : True := trivial; simp (maxSteps := 2000000) (disch := omega) only [evb, evd, eve, constPV, seqK, blockK, scopeK, pbound, pelems, PV.mem?, PV.one, PV.cells, peqs, peq1, pkeys, List.set, Value.cells, ↓popG_eq, ↓pop.eq_1, ↓List.getElem?_map, ↓List.getElem?_cons_zero, ↓List.getElem?_cons_succ, Value.oneCell', Nat.reduceAdd, Nat.reduceMul, Nat.reduceSub, Nat.reduceLeDiff, Nat.reduceEqDiff, ↓reduceIte, ne_eq, reduceCtorEq, forall_const, exists_and_left, exists_eq_left', eq_self, Nat.reduceLT, Int.reduceLT, Int.reduceLE, Int.reduceToNat, Int.reduceAdd, Int.reduceSub, Int.reduceNeg, hnm, Tryd.tf0, Tryd.tf1, Tryd.tf3, Tryd.tf4, Tryd.tf5, Tryd.tf9, Tryd.tf23, Tryd.tf52, Tryd.tf54, Tryd.tf57, Tryd.tf66, Tryd.tf69, Tryd.call25, Tryd.call29, Tryd.call34])
  repeat' (first
    | (with_reducible apply W_seq_k; intro nx hnx)
    | (with_reducible first | apply W_block | apply W_scope)
    | (with_reducible refine W_prune 253 ?_; simp only [prb, Nat.reducePow, Nat.reduceDiv, Nat.reduceMod, Nat.reduceBEq]; with_reducible apply W_region_l)
    | ((first | (with_reducible apply WL_op; intro nx hnx) | with_reducible refine Ev_out ?_ | (with_reducible refine pfresh_k hnm fun nm hnm => ?_; (try simp only [fmb] at hnm)) | (with_reducible refine pborn_mu hnm fun nm hnm => ?_; (try simp only [fmb] at hnm))); try (simp (maxSteps := 2000000) (disch := omega) only [evb, evd, eve, constPV, seqK, blockK, scopeK, pbound, pelems, PV.mem?, PV.one, PV.cells, peqs, peq1, pkeys, List.set, Value.cells, ↓popG_eq, ↓pop.eq_1, ↓List.getElem?_map, ↓List.getElem?_cons_zero, ↓List.getElem?_cons_succ, Value.oneCell', Nat.reduceAdd, Nat.reduceMul, Nat.reduceSub, Nat.reduceLeDiff, Nat.reduceEqDiff, ↓reduceIte, ne_eq, reduceCtorEq, forall_const, exists_and_left, exists_eq_left', eq_self, Nat.reduceLT, Int.reduceLT, Int.reduceLE, Int.reduceToNat, Int.reduceAdd, Int.reduceSub, Int.reduceNeg, hnm, Tryd.tf0, Tryd.tf1, Tryd.tf3, Tryd.tf4, Tryd.tf5, Tryd.tf9, Tryd.tf23, Tryd.tf52, Tryd.tf54, Tryd.tf57, Tryd.tf66, Tryd.tf69, Tryd.call25, Tryd.call29, Tryd.call34]); repeat (refine And.intro (by omega) ?_))
    | ((with_reducible first | apply WL_nil | apply W_label | apply W_skip | apply W_exit | apply W_ret); try simp only [seqK, blockK, scopeK, ↓reduceIte, Nat.reduceEqDiff])
    | (with_reducible apply W_cond_k; intro _ _ ea eb; (simp only [condK, cob, opnd, constPV, Nat.reduceEqDiff, Nat.reduceLT, ↓reduceIte, hcb, reduceCtorEq, forall_const, ne_eq]); subst ea eb; first | (refine ⟨fun hc => ?_, fun hc => ?_⟩ <;> first | (exfalso; omega) | (exfalso; exact hc trivial) | skip) | skip)
    | (with_reducible apply hnx; clear hnx nx)
    | (with_reducible refine And.intro (by omega) ?_)
    | (with_reducible refine And.intro ?_ ?_)
    | (clear hnx nx; with_reducible apply hnx; clear hnx nx)
    | (clear hnx nx; clear hnx nx; with_reducible apply hnx; clear hnx nx))
  obtain ⟨NB, hNB⟩ : ∃ N, N = nm := ⟨_, rfl⟩
  subst hNB
  obtain ⟨NA, hNA⟩ : ∃ N, N = nm := ⟨_, rfl⟩
  subst hNA
  refine W_loop_k (fun z τ => ∃ (c : Nat) (s : List UInt8) (HB : Heap), c ≤ 68 ∧ z = 68 - c ∧ s = catF vals c ∧ s.length = 16 * c ∧ BS NB s HB ∧ (names (HB ++ [(NA, ⟨23, false, 0, Z⟩)])).Nodup ∧
      τ = ⟨fr 23 [(7, pint .i64 c), (3, .ptr NB 0), (2, .ptr NA 0), (0, .func f caps)], HB ++ [(NA, ⟨23, false, 0, Z⟩)]⟩) 68
    ⟨fr 23 [(7, pint .i64 (0 : Nat)), (3, .ptr NB 0), (2, .ptr NA 0), (0, .func f caps)], [(NB, ⟨54, false, 0, [.val (.pointer none), pnil]⟩)] ++ [(NA, ⟨23, false, 0, Z⟩)]⟩ (by
    rw [← hZ2]
    refine Wk_fr (by simp only [wkb, Nat.reduceEqDiff, Nat.reduceLT, ↓reduceIte]) ?_
    exact Sub_refl (by simp [names, hnm])) ⟨0, [], _, by omega, by omega, rfl, rfl, .inl ⟨rfl, rfl⟩, by simp [names, hnm], rfl⟩ ?_
  rintro z τ ⟨c, s, HB, hcl, rfl, hs, hsl, hB, hnd, rfl⟩ lp hlp
  by_cases hlt : c < 68
  · have c1 := hc c hlt
    have hvl := hv c hlt
    have hsu := catF_succ vals c
    obtain ⟨u, hu⟩ : ∃ u, u = s ++ vals c := ⟨_, rfl⟩
    have hul : u = catF vals (c + 1) := by rw [hu, hs, hsu]
    have hull : u.length = 16 * (c + 1) := by rw [hu, List.length_append, hsl, hvl]; omega
    generalize vals c = x at *
    have cw := fun v => writeA_c G NB v s x hvl (by omega) HB hB
    rw [← hu] at cw
    have hxl : (x.map pbyte).length = 16 := by rw [List.length_map, hvl]
    have tx : List.take 16 (x.map pbyte) = x.map pbyte := List.take_of_length_le (by omega)
    have hxo := all_one_byte x
    repeat' (first
    | (with_reducible apply W_seq_k; intro nx hnx)
    | (with_reducible first | apply W_block | apply W_scope)
    | (with_reducible refine W_prune 253 ?_; simp only [prb, Nat.reducePow, Nat.reduceDiv, Nat.reduceMod, Nat.reduceBEq]; with_reducible apply W_region_l)
    | ((first | (with_reducible apply WL_op; intro nx hnx) | with_reducible refine Ev_out ?_ | (with_reducible refine pfresh_k hnm fun nm hnm => ?_; (try simp only [fmb] at hnm)) | (with_reducible refine pborn_mu hnm fun nm hnm => ?_; (try simp only [fmb] at hnm))); try (simp (maxSteps := 2000000) (disch := omega) only [evb, evd, eve, constPV, seqK, blockK, scopeK, pbound, pelems, PV.mem?, PV.one, PV.cells, peqs, peq1, pkeys, List.set, Value.cells, ↓popG_eq, ↓pop.eq_1, ↓List.getElem?_map, ↓List.getElem?_cons_zero, ↓List.getElem?_cons_succ, Value.oneCell', Nat.reduceAdd, Nat.reduceMul, Nat.reduceSub, Nat.reduceLeDiff, Nat.reduceEqDiff, ↓reduceIte, ne_eq, reduceCtorEq, forall_const, exists_and_left, exists_eq_left', eq_self, Nat.reduceLT, Int.reduceLT, Int.reduceLE, Int.reduceToNat, Int.reduceAdd, Int.reduceSub, Int.reduceNeg, hnm, Tryd.tf0, Tryd.tf1, Tryd.tf3, Tryd.tf4, Tryd.tf5, Tryd.tf9, Tryd.tf23, Tryd.tf52, Tryd.tf54, Tryd.tf57, Tryd.tf66, Tryd.tf69, Tryd.call25, Tryd.call29, Tryd.call34, hcall, hxl, tx, hxo, hZ2, hZl, hZd, hZo]); repeat (refine And.intro (by omega) ?_))
    | ((with_reducible first | apply WL_nil | apply W_label | apply W_skip | apply W_exit | apply W_ret); try simp only [seqK, blockK, scopeK, ↓reduceIte, Nat.reduceEqDiff])
    | (with_reducible apply W_cond_k; intro _ _ ea eb; (simp only [condK, cob, opnd, constPV, Nat.reduceEqDiff, Nat.reduceLT, ↓reduceIte, hcb, reduceCtorEq, forall_const, ne_eq]); subst ea eb; first | (refine ⟨fun hc => ?_, fun hc => ?_⟩ <;> first | (exfalso; omega) | (exfalso; exact hc trivial) | skip) | skip)
    | (with_reducible apply hnx; clear hnx nx)
    | (with_reducible refine And.intro (by omega) ?_)
    | (with_reducible refine And.intro ?_ ?_)
    | (with_reducible refine pcall_k (c1) ?_; rintro _ _ ⟨rfl, rfl⟩ -; refine Ev_in ?_)
    | ((refine pcall_midn [] (_ :: HB) [(NA, ⟨23, false, 0, Z⟩)] (by simp) (cw _) ?_; rintro _ H2 ⟨rfl, hB2⟩ nd2; refine Ev_in ?_))
    | (clear hnx nx; with_reducible apply hnx; clear hnx nx)
    | (clear hnx nx; clear hnx nx; with_reducible apply hnx; clear hnx nx))
    all_goals first
      | exact rfl
      | (exfalso
         omega)
      | (refine hlp _ (68 - (c + 1)) _ (by omega) ?_ ⟨c + 1, u, H2, by omega, rfl, hul, hull, hB2, nd2, rfl⟩
         refine Wk_fr (by simp only [wkb, Nat.reduceEqDiff, Nat.reduceLT, ↓reduceIte]) ?_
         exact Sub_refl nd2)
  · obtain rfl : c = 68 := by omega
    have k0 := string_c G NB s (by omega) HB hB
    have k1 := hof_c G hG 9 [s] (all_lt1 (by omega)) (by simp)
    have k3 := hof_c G hG 1 [ofH 9 [s]] (all_lt1 (by rw [ofH_len]; omega)) (by simp)
    have hol := leafF_len vals
    rw [show ofH 1 [ofH 9 [s]] = leafF vals by rw [hs]; rfl] at k3
    simp only [List.map_cons, List.map_nil] at k1 k3
    have hql := ofH_len 9 [s]
    generalize leafF vals = f1 at *
    generalize ofH 9 [s] = q at *
    have hone := all_one_byte f1
    have hol2 : (f1.map pbyte).length = 16 := by rw [List.length_map, hol]
    have t3 : List.take 16 (f1.map pbyte) = f1.map pbyte := List.take_of_length_le (by omega)
    have hqo := all_one_byte q
    have hqb := isByte_pb q
    have hqu := unb_pb q
    have hq2 : (q.map pbyte).length = 16 := by rw [List.length_map, hql]
    have tq : List.take 16 (q.map pbyte) = q.map pbyte := List.take_of_length_le (by omega)
    repeat' (first
    | (with_reducible apply W_seq_k; intro nx hnx)
    | (with_reducible first | apply W_block | apply W_scope)
    | (with_reducible refine W_prune 253 ?_; simp only [prb, Nat.reducePow, Nat.reduceDiv, Nat.reduceMod, Nat.reduceBEq]; with_reducible apply W_region_l)
    | (with_reducible refine WL_born (by simp) rfl (by simp) ?_; simp only [elemsOf, nl, List.map_cons, List.map_nil, Nat.reduceEqDiff, ↓reduceIte, List.take_succ_cons, List.take_zero, List.range_succ, List.range_zero, List.nil_append, List.cons_append, List.map_append, List.drop_succ_cons, List.drop_zero, Nat.reduceMul, Nat.zero_mul, Nat.one_mul, Nat.reduceAdd])
    | (with_reducible refine WL_bornH (by simp) (by simp) ?_ ?_ ?_; (· simp [frz, frz1, hnm]); (· simp [frz1, hnm, PV.one, Value.oneCell']); simp only [elemsOf, nl, List.map_cons, List.map_nil, Nat.reduceEqDiff, ↓reduceIte, List.take_succ_cons, List.take_zero, List.range_succ, List.range_zero, List.nil_append, List.cons_append, List.map_append, List.drop_succ_cons, List.drop_zero, Nat.reduceMul, Nat.zero_mul, Nat.one_mul, Nat.reduceAdd])
    | ((first | (with_reducible apply WL_op; intro nx hnx) | with_reducible refine Ev_out ?_ | (with_reducible refine pfresh_k hnm fun nm hnm => ?_; (try simp only [fmb] at hnm)) | (with_reducible refine pborn_im ?_; simp only [elemsOf, nl, List.map_cons, List.map_nil, Nat.reduceEqDiff, ↓reduceIte, List.take_succ_cons, List.take_zero, List.range_succ, List.range_zero, List.nil_append, List.cons_append, List.map_append, List.drop_succ_cons, List.drop_zero, Nat.reduceMul, Nat.zero_mul, Nat.one_mul, Nat.reduceAdd])); try (simp (maxSteps := 2000000) (disch := omega) only [evb, evd, eve, constPV, seqK, blockK, scopeK, pbound, pelems, PV.mem?, PV.one, PV.cells, peqs, peq1, pkeys, List.set, Value.cells, ↓popG_eq, ↓pop.eq_1, ↓List.getElem?_map, ↓List.getElem?_cons_zero, ↓List.getElem?_cons_succ, Value.oneCell', Nat.reduceAdd, Nat.reduceMul, Nat.reduceSub, Nat.reduceLeDiff, Nat.reduceEqDiff, ↓reduceIte, ne_eq, reduceCtorEq, forall_const, exists_and_left, exists_eq_left', eq_self, Nat.reduceLT, Int.reduceLT, Int.reduceLE, Int.reduceToNat, Int.reduceAdd, Int.reduceSub, Int.reduceNeg, hnm, Tryd.tf0, Tryd.tf1, Tryd.tf3, Tryd.tf4, Tryd.tf5, Tryd.tf9, Tryd.tf23, Tryd.tf52, Tryd.tf54, Tryd.tf57, Tryd.tf66, Tryd.tf69, Tryd.call25, Tryd.call29, Tryd.call34, hone, hol2, t3, hqo, hqb, hqu, hq2, tq, hZl, hZd, hZo, hZ2]); repeat (refine And.intro (by omega) ?_))
    | ((with_reducible first | apply WL_nil | apply W_label | apply W_skip | apply W_exit | apply W_ret); try simp only [seqK, blockK, scopeK, ↓reduceIte, Nat.reduceEqDiff])
    | (with_reducible apply W_cond_k; intro _ _ ea eb; (simp only [condK, cob, opnd, constPV, Nat.reduceEqDiff, Nat.reduceLT, ↓reduceIte, hcb, reduceCtorEq, forall_const, ne_eq]); subst ea eb; first | (refine ⟨fun hc => ?_, fun hc => ?_⟩ <;> first | (exfalso; omega) | (exfalso; exact hc trivial) | skip) | skip)
    | (with_reducible apply hnx; clear hnx nx)
    | (with_reducible refine And.intro (by omega) ?_)
    | (with_reducible refine And.intro ?_ ?_)
    | (with_reducible refine pcall_k (k1) ?_; rintro _ _ ⟨rfl, rfl⟩ -; refine Ev_in ?_)
    | (with_reducible refine pcall_k (k3) ?_; rintro _ _ ⟨rfl, rfl⟩ -; refine Ev_in ?_)
    | ((refine pcall_midn [] HB [(NA, ⟨23, false, 0, Z⟩)] (by simp) k0 ?_; rintro _ _ ⟨rfl, rfl⟩ nd2; refine Ev_in ?_))
    | (clear hnx nx; with_reducible apply hnx; clear hnx nx)
    | (clear hnx nx; clear hnx nx; with_reducible apply hnx; clear hnx nx))
    all_goals first
      | exact rfl
      | (exfalso
         omega)
      | (refine hfin _ _ ?_
         exact Fin_dig (n := NA) (by simp only [fr_getD_cons, Nat.reduceEqDiff, Nat.reduceLT, ↓reduceIte]) (by simp [look, hnm]) hol ⟨rfl, rfl⟩)
end Go.PM

namespace Go.PM
open Go.RowKit
section
variable {P : Program} {G : Globs} {E : Amb} {A : Nat → Prop} {σ : PState} {a : Act} {w : World} {q : Bool}
/-- what comes back from a call to which the objects S were lent -/
theorem Sim.lentS {w' : World} {A' : Nat → Prop} {S : Nat → Prop} {F : List Int} (hs : Sim G E A σ a w) (hS : ∀ b : Nat, S b → ∃ o, ((b : Int), o) ∈ σ.heap)
    (hs' : Sim G ⟨w, fun b => A b ∨ S b, [], F⟩ A' ⟨[], []⟩ ⟨#[], []⟩ w') : Sim G E (fun b => A' b ∧ ¬ S b) σ a w' := by
  have he : Ext (fun _ => False) w w' := hs'.ext.mono (fun x hx => (List.not_mem_nil hx).elim)
  have hm : ∀ b, A b → ¬ False := fun _ _ h => h
  have hA : ∀ b, A b → A' b ∧ ¬ S b := fun b hb => ⟨hs'.a0 b (.inl hb), fun e => by
    obtain ⟨o, ho⟩ := hS b e
    exact (hs.own _ o ho b rfl).2.1 hb⟩
  have hA1 : ∀ b, A' b ∧ ¬ S b → A b ∨ w.heap.size ≤ b := by
    intro b ⟨hb, hn⟩
    rcases hs'.a1 b hb with (h | h) | h
    · exact .inl h
    · exact absurd h hn
    · exact .inr h
  refine ⟨hs.ext.trans he (fun _ _ h => h.elim), fun b hb => hs'.lt b hb.1, fun b hb => hA b (hs.a0 b hb), fun b hb => ?_, fun g => (hs.globs g).ext he hA hm, hs.nodup, fun m o' h => (hs.objs m o' h).ext he hA hm (fun _ _ h => h), fun m o' h b hb => ?_, hs.neg, hs.defers, hs.size, fun i p hp => ?_⟩
  · rcases hA1 b hb with h | h
    · exact hs.a1 b h
    · exact .inr (Nat.le_trans hs.ext.size h)
  · obtain ⟨q1, q2, q3⟩ := hs.own m o' h b hb
    refine ⟨Nat.lt_of_lt_of_le q1 he.size, fun hb' => ?_, q3⟩
    rcases hA1 b hb' with h | h
    · exact q2 h
    · omega
  · obtain ⟨v, hv, hr⟩ := hs.frame i p hp
    exact ⟨v, hv, hr.ext he hA hm⟩
/-- A call by contract to which the objects n and m are lent, to be read: what comes back names no memory. -/
theorem pcall_lend2 {fn : FuncId} {args : List PV} {R : PV → Heap → Prop} {d : Option Tmp} {K : PState → Prop} (n m : Int) (o u : PObj) (hl : look σ.heap n = some o) (hm : look σ.heap m = some u)
    (hc : PCalls P G fn (args.map fun p => frz m u.cells (frz n o.cells p)) [] R)
    (hk : ∀ res Hout, R res Hout → Hout = [] ∧ Flat res ∧ K (PState.put σ d res)) : @pcallI q P G σ d fn args ⟨K⟩ := by
  intro E A a w vals hs hsz hvals
  have hob := hs.objs n o (look_mem hl)
  have hob2 := hs.objs m u (look_mem hm)
  have hA1 : ∀ b, A b → (A b ∨ (b : Int) = n) := fun b h => .inl h
  have hn1 : ∀ b : Nat, n = b → (A b ∨ (b : Int) = n) := fun b h => .inr h.symm
  have hA2 : ∀ b, (A b ∨ (b : Int) = n) → (A b ∨ ((b : Int) = n ∨ (b : Int) = m)) := fun b h => by
    rcases h with h | h
    · exact .inl h
    · exact .inr (.inl h)
  have hn2 : ∀ b : Nat, m = b → (A b ∨ ((b : Int) = n ∨ (b : Int) = m)) := fun b h => .inr (.inr h.symm)
  have hob3 : ObjRep w (fun b => A b ∨ (b : Int) = n) m u := hob2.ext (M := fun _ => False) (Ext.refl _ _) hA1 (fun _ _ h => h) (fun _ _ h => h)
  refine (hc w (fun b => A b ∨ ((b : Int) = n ∨ (b : Int) = m)) (names σ.heap ++ E.F) vals ?_ (fun g => (hs.globs g).mono (fun b h => .inl h) (fun _ _ _ _ h => h) (fun _ _ h => h)) (by simp) (by simp) (by simp) (by rw [List.length_map]; exact hsz) ?_).mono ?_
  · intro b hb
    rcases hb with h | h | h
    · exact hs.lt b h
    · exact (hs.own n o (look_mem hl) b h.symm).1
    · exact (hs.own m u (look_mem hm) b h.symm).1
  · intro i p hp
    rw [List.getElem?_map] at hp
    cases hj : args[i]? with
    | none => rw [hj] at hp; cases hp
    | some p0 =>
      rw [hj] at hp
      cases hp
      obtain ⟨v, hv, hr⟩ := hvals i p0 hj
      exact ⟨v, hv, frz_rep hA2 hn2 hob3 (frz_rep hA1 hn1 hob hr)⟩
  · rintro e w' ⟨v, A', res, Hout, rfl, hR, hr, hs'⟩
    obtain ⟨rfl, hflat, hK⟩ := hk res Hout hR
    have hS : ∀ b : Nat, ((b : Int) = n ∨ (b : Int) = m) → ∃ o, ((b : Int), o) ∈ σ.heap := by
      rintro b (h | h)
      · exact ⟨o, h ▸ look_mem hl⟩
      · exact ⟨u, h ▸ look_mem hm⟩
    exact ⟨v, _, _, rfl, hK, (hs.lentS hS hs').put d (hflat.rep hr), fun _ => keeps_of_sim hs'⟩
end
end Go.PM

namespace Go.PM
open Go.RowKit
/-- The heap, one object turned no more, seen through closures too. -/
def frzD (n : Int) (cells : List PV) (H : Heap) : Heap := (del H n).map fun x => (x.1, { x.2 with cells := x.2.cells.map (frz n cells) })
/-- One object after the other is lent. -/
inductive Lend : List PV → Heap → List PV → Prop
  | done {args args' : List PV} (H : Heap) (h : args = args') : Lend args H args'
  | step {args args' : List PV} {H : Heap} (n : Int) (o : PObj) (hl : look H n = some o) (hone : ∀ x ∈ del H n, ∀ u ∈ x.2.cells, (frz n o.cells u).one = true)
      (h : Lend (args.map (frz n o.cells)) (frzD n o.cells H) args') : Lend args H args'
section
variable {P : Program} {G : Globs} {E : Amb} {A : Nat → Prop} {σ : PState} {a : Act} {w : World} {q : Bool}
theorem ObjRep.frz {n m : Int} {o u : PObj} {A' : Nat → Prop} (hA : ∀ b, A b → A' b) (hn : ∀ b : Nat, n = b → A' b) (ho : ObjRep w A n o) (h : ObjRep w A m u) (hone : ∀ x ∈ u.cells, (PM.frz n o.cells x).one = true) :
    ObjRep w A' m { u with cells := u.cells.map (PM.frz n o.cells) } := by
  rcases h with ⟨g1, g2, g3⟩ | ⟨b, cur, fz, f, rfl, q1, q2, q3, q4⟩ | ⟨b, es, clock, rfl, q1, q2, q3, q5, q6, q4⟩
  · exact .inl ⟨g1, g2, by simp [g3]⟩
  · refine .inr (.inl ⟨b, cur, fz, f, rfl, q1, q2, ⟨q3.1, fun k1 k2 => by simpa using q3.2 k1 k2⟩, fun j v hv => ?_⟩)
    simp only [List.getElem?_map] at hv
    cases hj : u.cells[j]? with
    | none => rw [hj] at hv; cases hv
    | some x =>
      rw [hj] at hv
      cases hv
      exact ⟨(q4 j x hj).1, hone x (List.mem_of_getElem? hj), frz_rep hA hn ho (q4 j x hj).2.2⟩
  · refine .inr (.inr ⟨b, es, clock, rfl, q1, q2, by simp [q3], q5, q6, fun j v hv => ?_⟩)
    simp only [List.getElem?_map] at hv
    cases hj : u.cells[j]? with
    | none => rw [hj] at hv; cases hv
    | some x =>
      rw [hj] at hv
      cases hv
      obtain ⟨e, k, v, r1, rfl, r2, r3⟩ := q4 j x hj
      exact ⟨e, k, v, r1, rfl, r2.mono hA (fun _ _ _ _ h => h) (fun _ _ h => h), r3.mono hA (fun _ _ _ _ h => h) (fun _ _ h => h)⟩
theorem del_mem {n : Int} : ∀ {H : Heap} {x : Int × PObj}, x ∈ del H n → x ∈ H
  | [], x, h => by simp [del] at h
  | y :: H, x, h => by
    obtain ⟨m, o⟩ := y
    simp only [del] at h
    split at h
    · exact .tail _ h
    · rcases List.mem_cons.1 h with h | h
      · exact h ▸ .head _
      · exact .tail _ (del_mem h)
theorem Lend.reps {args args' : List PV} {H : Heap} (h : Lend args H args') : ∀ {A : Nat → Prop} {vals : Array Value}, (∀ n o, (n, o) ∈ H → ObjRep w A n o) →
    (∀ (i : Nat) (p : PV), args[i]? = some p → ∃ v : Value, vals[i]? = some v ∧ Rep w A p v) →
    ∃ A' : Nat → Prop, (∀ b, A b → A' b) ∧ (∀ b, A' b → A b ∨ ∃ o, ((b : Int), o) ∈ H) ∧ args'.length = args.length ∧ ∀ (i : Nat) (p : PV), args'[i]? = some p → ∃ v : Value, vals[i]? = some v ∧ Rep w A' p v := by
  induction h with
  | done H h =>
    intro A vals _ hv
    subst h
    exact ⟨A, fun _ h => h, fun _ h => .inl h, rfl, hv⟩
  | step n o hl hone h ih =>
    rename_i args args' H
    intro A vals ho hv
    have hA : ∀ b, A b → (A b ∨ (b : Int) = n) := fun b h => .inl h
    have hn : ∀ b : Nat, n = b → (A b ∨ (b : Int) = n) := fun b h => .inr h.symm
    have hob := ho n o (look_mem hl)
    obtain ⟨A', a1, a2, a3, a4⟩ := ih (A := fun b => A b ∨ (b : Int) = n) (vals := vals) (by
      intro m u hm
      obtain ⟨⟨m1, u1⟩, h1, e⟩ := List.mem_map.1 hm
      cases e
      exact ObjRep.frz hA hn hob (ho m1 u1 (del_mem h1)) (hone _ h1)) (by
      intro i p hp
      rw [List.getElem?_map] at hp
      cases hj : args[i]? with
      | none => rw [hj] at hp; cases hp
      | some p0 =>
        rw [hj] at hp
        cases hp
        obtain ⟨v, hv1, hr⟩ := hv i p0 hj
        exact ⟨v, hv1, frz_rep hA hn hob hr⟩)
    refine ⟨A', fun b hb => a1 b (.inl hb), fun b hb => ?_, by rw [a3, List.length_map], a4⟩
    rcases a2 b hb with (h | h) | ⟨u, h⟩
    · exact .inl h
    · exact .inr ⟨o, h ▸ look_mem hl⟩
    · obtain ⟨⟨m1, u1⟩, h1, e⟩ := List.mem_map.1 h
      cases e
      exact .inr ⟨u1, del_mem h1⟩
/-- A call by contract to which objects are lent, to be read: what comes back names no memory. -/
theorem pcall_lendL {fn : FuncId} {args : List PV} (args' : List PV) {R : PV → Heap → Prop} {d : Option Tmp} {K : PState → Prop} (hL : Lend args σ.heap args') (hc : PCalls P G fn args' [] R)
    (hk : ∀ res Hout, R res Hout → Hout = [] ∧ Flat res ∧ K (PState.put σ d res)) : @pcallI q P G σ d fn args ⟨K⟩ := by
  intro E A a w vals hs hsz hvals
  obtain ⟨A1, a1, a2, a3, a4⟩ := hL.reps (w := w) (A := A) (vals := vals) hs.objs hvals
  refine (hc w A1 (names σ.heap ++ E.F) vals ?_ (fun g => (hs.globs g).mono a1 (fun _ _ _ _ h => h) (fun _ _ h => h)) (by simp) (by simp) (by simp) (by rw [a3]; exact hsz) a4).mono ?_
  · intro b hb
    rcases a2 b hb with h | ⟨o, h⟩
    · exact hs.lt b h
    · exact (hs.own _ o h b rfl).1
  · rintro e w' ⟨v, A', res, Hout, rfl, hR, hr, hs'⟩
    obtain ⟨rfl, hflat, hK⟩ := hk res Hout hR
    have he : Ext (fun _ => False) w w' := hs'.ext.mono (fun x hx => (List.not_mem_nil hx).elim)
    have hm : ∀ b, A b → ¬ False := fun _ _ h => h
    have hsim : Sim G E A σ a w' := by
      refine ⟨hs.ext.trans he (fun _ _ h => h.elim), fun b hb => Nat.lt_of_lt_of_le (hs.lt b hb) he.size, hs.a0, hs.a1, fun g => (hs.globs g).ext he (fun _ h => h) hm, hs.nodup, fun m o' h => (hs.objs m o' h).ext he (fun _ h => h) hm (fun _ _ h => h), fun m o' h b hb => ?_, hs.neg, hs.defers, hs.size, fun i p hp => ?_⟩
      · obtain ⟨q1, q2, q3⟩ := hs.own m o' h b hb
        exact ⟨Nat.lt_of_lt_of_le q1 he.size, q2, q3⟩
      · obtain ⟨v, hv, hr⟩ := hs.frame i p hp
        exact ⟨v, hv, hr.ext he (fun _ h => h) hm⟩
    exact ⟨v, _, A, rfl, hK, hsim.put d (hflat.rep hr), fun _ => keeps_of_sim hs'⟩
end
end Go.PM

namespace Go.PM
theorem peqs_bytes : ∀ (n : Nat) (d e : List UInt8), d.length = n → e.length = n → peqs (List.replicate n (.int .u8)) (d.map pbyte) (e.map pbyte) = some (decide (d = e))
  | 0, [], [], _, _ => by simp [peqs]
  | n + 1, a :: d, b :: e, h1, h2 => by
    have ih := peqs_bytes n d e (by simpa using h1) (by simpa using h2)
    simp only [List.replicate_succ, List.map_cons, peqs, ih, peq1, if_true]
    congr 1
    have : ((a.toNat : Int) == (b.toNat : Int)) = decide (a = b) := by
      rw [Bool.eq_iff_iff]
      simp only [beq_iff_eq, decide_eq_true_eq]
      exact ⟨fun h => UInt8.toNat_inj.1 (Int.ofNat_inj.1 h), fun h => by rw [h]⟩
    rw [this]
    simp
theorem q16 (a b : List UInt8) (h1 : a.length = 16) (h2 : b.length = 16) : peqs [.int .u8, .int .u8, .int .u8, .int .u8, .int .u8, .int .u8, .int .u8, .int .u8, .int .u8, .int .u8, .int .u8, .int .u8, .int .u8, .int .u8, .int .u8, .int .u8] (a.map pbyte) (b.map pbyte) = some (decide (a = b)) := peqs_bytes 16 a b h1 h2
end Go.PM

namespace Go.PM
open Go.Proofs
attribute [local irreducible] W PCalls pcall pcallI WL
/-- The node with a number at a level. -/
def nodeV (seed : List UInt8) : Nat → Nat → List UInt8
  | 0, k => leafF (topF seed k)
  | l + 1, k => nodeF (nodeV seed l (2 * k)) (nodeV seed l (2 * k + 1))
theorem nodeF_len (a b : List UInt8) : (nodeF a b).length = 16 := ofH_len _ _
theorem nodeV_len (seed : List UInt8) : ∀ l k, (nodeV seed l k).length = 16
  | 0, k => leafF_len _
  | l + 1, k => nodeF_len _ _
/-- A digest. -/
@[reducible] def pdg (x : List UInt8) : PV := .agg (x.map pbyte)
def catD (l : List (List UInt8)) : List PV := l.flatten.map pbyte
/-- The first nodes of a level. -/
def lvD (seed : List UInt8) (l n : Nat) : List (List UInt8) := (List.range n).map (nodeV seed l)
/-- The cells of a level. -/
def lvC (seed : List UInt8) (l n : Nat) : List PV := catD (lvD seed l n)
/-- The levels of a tree, in part. -/
def tbC (seed : List UInt8) (h n : Nat) : List PV := (List.range n).map fun j => .list 16 ((lvD seed j (2 ^ (h - j))).map pdg)
attribute [local irreducible] lvC lvD tbC
theorem shl_op : ∀ h : _root_.Fin 7, IntKind.i64.wrap (1 * 2 ^ min h.val IntKind.i64.bits) = ((2 ^ h.val : Nat) : Int) := by decide +kernel
theorem pow_le64 (h : Nat) (hh : h ≤ 6) : 2 ^ h ≤ 64 := by
  have := Nat.pow_le_pow_right (n := 2) (by omega) hh
  exact this
end Go.PM

namespace Go.PM
open Go.Proofs
attribute [local irreducible] W PCalls pcall pcallI WL
/-- What Public answers. -/
def pubF (seed : List UInt8) (n : Int) : List UInt8 × Int :=
  if seed.length = 32 ∧ 0 ≤ n ∧ n ≤ 6 then (nodeV seed n.toNat 0, 0) else (List.replicate 16 0, 1)
theorem pubF_len (seed : List UInt8) (n : Int) : (pubF seed n).1.length = 16 := by
  unfold pubF
  split
  · exact nodeV_len _ _ _
  · simp
/-- The end of a function whose results are a digest that lies in a cell, and a number. -/
theorem Fin_dig2 {x y : Tmp} {n : Int} {f : List UInt8} {e : PV} {R : PV → Heap → Prop} {σ : PState} (hx : σ.frame.getD x .junk = .ptr n 0) (hl : look σ.heap n = some ⟨23, false, 0, f.map pbyte⟩) (hf : f.length = 16)
    (hy : σ.frame.getD y .junk = e) (h3 : R (.tuple [.agg (f.map pbyte), e]) []) : Fin Tryd.prog [.cell x 23, .tmp y] R .ret σ := by
  have hone := all_one_byte f
  have htk : List.take 16 (f.map pbyte) = f.map pbyte := List.take_of_length_le (by rw [List.length_map]; omega)
  refine Fin_ret (H := []) (show PResult Tryd.prog σ [.cell x 23, .tmp y] (.tuple [.agg (f.map pbyte), e]) from ⟨[.agg (f.map pbyte), e], ⟨?_, hy.symm, trivial⟩, rfl⟩) (Sub_nil _) h3
  show PRes Tryd.prog σ (.cell x 23) (.agg (f.map pbyte))
  simp only [PRes, Tryd.tf23, hx, hl]
  simp [pload, hf, htk, hone]
end Go.PM

namespace Go.PM
open Go.Proofs
attribute [local irreducible] W PCalls pcall pcallI WL
def seC (c : UInt8) (i : Nat) : List PV := List.replicate i (pbyte c) ++ List.replicate (32 - i) (pint .u8 0)
theorem seC_len {c : UInt8} {i : Nat} (h : i ≤ 32) : (seC c i).length = 32 := by simp [seC]; omega
theorem seC_zero (c : UInt8) : seC c 0 = List.replicate 32 (pint .u8 0) := rfl
theorem seC_full (c : UInt8) : seC c 32 = (List.replicate 32 c).map pbyte := by simp [seC]
theorem seC_put {c : UInt8} {i : Nat} (h : i < 32) : List.take i (seC c i) ++ [pbyte c] ++ List.drop (i + 1) (seC c i) = seC c (i + 1) := by
  obtain ⟨m, hm⟩ : ∃ m, 32 - i = m + 1 := ⟨32 - i - 1, by omega⟩
  have hl : (List.replicate i (pbyte c)).length = i := by simp
  rw [seC, seC, hm, show 32 - (i + 1) = m by omega, List.take_append_of_le_length (by omega), List.take_of_length_le (by omega), List.drop_append, hl, List.drop_of_length_le (by omega), show i + 1 - i = 1 by omega, List.replicate_succ, List.replicate_succ']
  simp
attribute [local irreducible] seC
set_option maxRecDepth 100000 in
set_option maxHeartbeats 8000000 in
theorem seed_c (G : Globs) (c : UInt8) : PCalls Tryd.prog G 20 [pbyte c] [] (fun res H => res = pstr (List.replicate 32 c) ∧ H = []) := by
  (refine PCalls_f Tryd.func20 rfl Tryd.ntmps20 Tryd.results20 (by simp) fun fin hfin => ?_; have hnm : True := trivial; simp (maxSteps := 2000000) (disch := omega) only [evb, evd, eve, constPV, seqK, blockK, scopeK, pbound, pelems, PV.mem?, PV.one, PV.cells, peqs, peq1, pkeys, List.set, Value.cells, ↓popG_eq, ↓pop.eq_1, ↓List.getElem?_map, ↓List.getElem?_cons_zero, ↓List.getElem?_cons_succ, Value.oneCell', Nat.reduceAdd, Nat.reduceMul, Nat.reduceSub, Nat.reduceLeDiff, Nat.reduceEqDiff, ↓reduceIte, ne_eq, reduceCtorEq, forall_const, exists_and_left, exists_eq_left', eq_self, Nat.reduceLT, Int.reduceLT, Int.reduceLE, Int.reduceToNat, Int.reduceAdd, Int.reduceSub, Int.reduceNeg, hnm, Tryd.tf0, Tryd.tf3, Tryd.tf4, Tryd.tf5, Tryd.tf9, Tryd.tf52])
  repeat' (first
    | (with_reducible apply W_seq_k; intro nx hnx)
    | (with_reducible first | apply W_block | apply W_scope)
    | (with_reducible refine W_prune 29 ?_; simp only [prb, Nat.reducePow, Nat.reduceDiv, Nat.reduceMod, Nat.reduceBEq]; with_reducible apply W_region_l)
    | ((first | (with_reducible apply WL_op; intro nx hnx) | with_reducible refine Ev_out ?_ | (with_reducible refine pfresh_k hnm fun nm hnm => ?_; (try simp only [fmb] at hnm)) | (with_reducible refine pborn_mu hnm fun nm hnm => ?_; (try simp only [fmb] at hnm))); try (simp (maxSteps := 2000000) (disch := omega) only [evb, evd, eve, constPV, seqK, blockK, scopeK, pbound, pelems, PV.mem?, PV.one, PV.cells, peqs, peq1, pkeys, List.set, Value.cells, ↓popG_eq, ↓pop.eq_1, ↓List.getElem?_map, ↓List.getElem?_cons_zero, ↓List.getElem?_cons_succ, Value.oneCell', Nat.reduceAdd, Nat.reduceMul, Nat.reduceSub, Nat.reduceLeDiff, Nat.reduceEqDiff, ↓reduceIte, ne_eq, reduceCtorEq, forall_const, exists_and_left, exists_eq_left', eq_self, Nat.reduceLT, Int.reduceLT, Int.reduceLE, Int.reduceToNat, Int.reduceAdd, Int.reduceSub, Int.reduceNeg, hnm, Tryd.tf0, Tryd.tf3, Tryd.tf4, Tryd.tf5, Tryd.tf9, Tryd.tf52]); repeat (refine And.intro (by omega) ?_))
    | ((with_reducible first | apply WL_nil | apply W_label | apply W_skip | apply W_exit | apply W_ret); try simp only [seqK, blockK, scopeK, ↓reduceIte, Nat.reduceEqDiff])
    | (with_reducible apply W_cond_k; intro _ _ ea eb; (simp only [condK, cob, opnd, constPV, Nat.reduceEqDiff, Nat.reduceLT, ↓reduceIte, hcb, reduceCtorEq, forall_const, ne_eq]); subst ea eb; first | (refine ⟨fun hc => ?_, fun hc => ?_⟩ <;> first | (exfalso; omega) | (exfalso; exact hc trivial) | skip) | skip)
    | (with_reducible apply hnx; clear hnx nx)
    | (with_reducible refine And.intro (by omega) ?_)
    | (with_reducible refine And.intro ?_ ?_)
    | (clear hnx nx; with_reducible apply hnx; clear hnx nx)
    | (clear hnx nx; clear hnx nx; with_reducible apply hnx; clear hnx nx))
  obtain ⟨N, hN⟩ : ∃ N, N = nm := ⟨_, rfl⟩
  subst hN
  refine W_loop_k (fun z τ => ∃ i : Nat, i ≤ 32 ∧ z = 32 - i ∧ τ = ⟨fr 16 [(4, pint .i64 i), (3, .row N 1 32), (0, pbyte c)], [(N, ⟨5, true, 1, seC c i⟩)]⟩) 32
    ⟨fr 16 [(4, pint .i64 (0 : Nat)), (3, .row N 1 32), (0, pbyte c)], [(N, ⟨5, true, 1, seC c 0⟩)]⟩ (by
    rw [seC_zero]
    refine Wk_fr (by simp only [wkb, Nat.reduceEqDiff, Nat.reduceLT, ↓reduceIte]) ?_
    exact Sub_refl (by simp [names])) ⟨0, by omega, by omega, rfl⟩ ?_
  rintro z τ ⟨i, hi, rfl, rfl⟩ lp hlp
  have hl := seC_len (c := c) hi
  by_cases hlt : i < 32
  · have hput := seC_put (c := c) hlt
    repeat' (first
    | (with_reducible apply W_seq_k; intro nx hnx)
    | (with_reducible first | apply W_block | apply W_scope)
    | (with_reducible refine W_prune 29 ?_; simp only [prb, Nat.reducePow, Nat.reduceDiv, Nat.reduceMod, Nat.reduceBEq]; with_reducible apply W_region_l)
    | ((first | (with_reducible apply WL_op; intro nx hnx) | with_reducible refine Ev_out ?_ | (with_reducible refine pfresh_k hnm fun nm hnm => ?_; (try simp only [fmb] at hnm)) | (with_reducible refine pborn_mu hnm fun nm hnm => ?_; (try simp only [fmb] at hnm))); try (simp (maxSteps := 2000000) (disch := omega) only [evb, evd, eve, constPV, seqK, blockK, scopeK, pbound, pelems, PV.mem?, PV.one, PV.cells, peqs, peq1, pkeys, List.set, Value.cells, ↓popG_eq, ↓pop.eq_1, ↓List.getElem?_map, ↓List.getElem?_cons_zero, ↓List.getElem?_cons_succ, Value.oneCell', Nat.reduceAdd, Nat.reduceMul, Nat.reduceSub, Nat.reduceLeDiff, Nat.reduceEqDiff, ↓reduceIte, ne_eq, reduceCtorEq, forall_const, exists_and_left, exists_eq_left', eq_self, Nat.reduceLT, Int.reduceLT, Int.reduceLE, Int.reduceToNat, Int.reduceAdd, Int.reduceSub, Int.reduceNeg, hnm, Tryd.tf0, Tryd.tf3, Tryd.tf4, Tryd.tf5, Tryd.tf9, Tryd.tf52, hl, hput]); repeat (refine And.intro (by omega) ?_))
    | ((with_reducible first | apply WL_nil | apply W_label | apply W_skip | apply W_exit | apply W_ret); try simp only [seqK, blockK, scopeK, ↓reduceIte, Nat.reduceEqDiff])
    | (with_reducible apply W_cond_k; intro _ _ ea eb; (simp only [condK, cob, opnd, constPV, Nat.reduceEqDiff, Nat.reduceLT, ↓reduceIte, hcb, reduceCtorEq, forall_const, ne_eq]); subst ea eb; first | (refine ⟨fun hc => ?_, fun hc => ?_⟩ <;> first | (exfalso; omega) | (exfalso; exact hc trivial) | skip) | skip)
    | (with_reducible apply hnx; clear hnx nx)
    | (with_reducible refine And.intro (by omega) ?_)
    | (with_reducible refine And.intro ?_ ?_)
    | (clear hnx nx; with_reducible apply hnx; clear hnx nx)
    | (clear hnx nx; clear hnx nx; with_reducible apply hnx; clear hnx nx))
    all_goals first
      | exact rfl
      | (exfalso
         omega)
      | (refine hlp _ (32 - (i + 1)) _ (by omega) ?_ ⟨i + 1, by omega, rfl, rfl⟩
         refine Wk_fr (by simp only [wkb, Nat.reduceEqDiff, Nat.reduceLT, ↓reduceIte]) ?_
         exact Sub_refl (by simp [names]))
  · obtain rfl : i = 32 := by omega
    have hfull := seC_full c
    have hrl : (List.replicate 32 c).length = 32 := by simp
    rw [hfull] at hl ⊢
    generalize List.replicate 32 c = s at *
    have b1 := isByte_pb s
    have b2 := unb_pb s
    have tk : List.take 32 (s.map pbyte) = s.map pbyte := List.take_of_length_le (by omega)
    repeat' (first
    | (with_reducible apply W_seq_k; intro nx hnx)
    | (with_reducible first | apply W_block | apply W_scope)
    | (with_reducible refine W_prune 29 ?_; simp only [prb, Nat.reducePow, Nat.reduceDiv, Nat.reduceMod, Nat.reduceBEq]; with_reducible apply W_region_l)
    | ((first | (with_reducible apply WL_op; intro nx hnx) | with_reducible refine Ev_out ?_ | (with_reducible refine pfresh_k hnm fun nm hnm => ?_; (try simp only [fmb] at hnm)) | (with_reducible refine pborn_mu hnm fun nm hnm => ?_; (try simp only [fmb] at hnm))); try (simp (maxSteps := 2000000) (disch := omega) only [evb, evd, eve, constPV, seqK, blockK, scopeK, pbound, pelems, PV.mem?, PV.one, PV.cells, peqs, peq1, pkeys, List.set, Value.cells, ↓popG_eq, ↓pop.eq_1, ↓List.getElem?_map, ↓List.getElem?_cons_zero, ↓List.getElem?_cons_succ, Value.oneCell', Nat.reduceAdd, Nat.reduceMul, Nat.reduceSub, Nat.reduceLeDiff, Nat.reduceEqDiff, ↓reduceIte, ne_eq, reduceCtorEq, forall_const, exists_and_left, exists_eq_left', eq_self, Nat.reduceLT, Int.reduceLT, Int.reduceLE, Int.reduceToNat, Int.reduceAdd, Int.reduceSub, Int.reduceNeg, hnm, Tryd.tf0, Tryd.tf3, Tryd.tf4, Tryd.tf5, Tryd.tf9, Tryd.tf52, hl, b1, b2, tk]); repeat (refine And.intro (by omega) ?_))
    | ((with_reducible first | apply WL_nil | apply W_label | apply W_skip | apply W_exit | apply W_ret); try simp only [seqK, blockK, scopeK, ↓reduceIte, Nat.reduceEqDiff])
    | (with_reducible apply W_cond_k; intro _ _ ea eb; (simp only [condK, cob, opnd, constPV, Nat.reduceEqDiff, Nat.reduceLT, ↓reduceIte, hcb, reduceCtorEq, forall_const, ne_eq]); subst ea eb; first | (refine ⟨fun hc => ?_, fun hc => ?_⟩ <;> first | (exfalso; omega) | (exfalso; exact hc trivial) | skip) | skip)
    | (with_reducible apply hnx; clear hnx nx)
    | (with_reducible refine And.intro (by omega) ?_)
    | (with_reducible refine And.intro ?_ ?_)
    | (clear hnx nx; with_reducible apply hnx; clear hnx nx)
    | (clear hnx nx; clear hnx nx; with_reducible apply hnx; clear hnx nx))
    all_goals first
      | exact rfl
      | (exfalso
         omega)
      | (refine hfin _ _ (Fin_ret1 rfl (Sub_nil _) ?_); simp only [List.getD_cons_zero, List.getD_cons_succ, fr_getD_cons, fr_getD_nil, Nat.reduceEqDiff, Nat.reduceLT, ↓reduceIte]; first | trivial | exact ⟨rfl, by trivial⟩ | (simp; done) | (simp; omega))
end Go.PM
