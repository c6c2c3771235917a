/- The contract of the function that shows the document's examples. Conditions: none but those that each names. -/
import Derived.Test.YtoekafodjjeboaaDoorHq
set_option linter.unusedSimpArgs false
set_option linter.unusedVariables false
namespace Go.PM
open Go.Proofs
attribute [local irreducible] W PCalls pcall pcallI WL

def exB : List UInt8 := [97, 98, 99]
def exK : List UInt8 := [74, 101, 102, 101]
def exT : List UInt8 := [119, 104, 97, 116, 32, 100, 111, 32, 121, 97, 32, 119, 97, 110, 116, 32, 102, 111, 114, 32, 110, 111, 116, 104, 105, 110, 103, 63]
def exP : List (List UInt8) := [[97], []]
def hx1 : List UInt8 := [98, 97, 55, 56, 49, 54, 98, 102, 56, 102, 48, 49, 99, 102, 101, 97, 52, 49, 52, 49, 52, 48, 100, 101, 53, 100, 97, 101, 50, 50, 50, 51, 98, 48, 48, 51, 54, 49, 97, 51, 57, 54, 49, 55, 55, 97, 57, 99, 98, 52, 49, 48, 102, 102, 54, 49, 102, 50, 48, 48, 49, 53, 97, 100]
def hx2 : List UInt8 := [53, 98, 100, 99, 99, 49, 52, 54, 98, 102, 54, 48, 55, 53, 52, 101, 54, 97, 48, 52, 50, 52, 50, 54, 48, 56, 57, 53, 55, 53, 99, 55, 53, 97, 48, 48, 51, 102, 48, 56, 57, 100, 50, 55, 51, 57, 56, 51, 57, 100, 101, 99, 53, 56, 98, 57, 54, 52, 101, 99, 51, 56, 52, 51]
def hx3 : List UInt8 := [51, 54, 99, 100, 53, 48, 56, 53, 48, 51, 50, 57, 102, 56, 56, 52, 48, 54, 101, 51, 49, 98, 98, 56, 97, 55, 100, 56, 102, 98, 54, 50]
set_option maxRecDepth 1000000 in
theorem hx1_eq : hexB (sha exB) = hx1 := by decide +kernel
set_option maxRecDepth 1000000 in
theorem hx2_eq : hexB (mac exK exT) = hx2 := by decide +kernel
set_option maxRecDepth 1000000 in
theorem hx3_eq : hexB (ofH 8 exP) = hx3 := by decide +kernel

theorem peqs_bytes : ∀ (n : Nat) (d e : List UInt8), d.length = n → e.length = n → peqs (List.replicate n (.int .u8)) (d.map pbyte) (e.map pbyte) = some (decide (d = e))
  | 0, [], [], _, _ => by simp [peqs]
  | n + 1, a :: d, b :: e, h1, h2 => by
    have ih := peqs_bytes n d e (by simpa using h1) (by simpa using h2)
    simp only [List.replicate_succ, List.map_cons, peqs, ih, peq1, if_true]
    congr 1
    have : ((a.toNat : Int) == (b.toNat : Int)) = decide (a = b) := by
      rw [Bool.eq_iff_iff]
      simp only [beq_iff_eq, decide_eq_true_eq]
      exact ⟨fun h => UInt8.toNat_inj.1 (Int.ofNat_inj.1 h), fun h => by rw [h]⟩
    rw [this]
    simp
theorem q32 (a b : List UInt8) (h1 : a.length = 32) (h2 : b.length = 32) : peqs [.int .u8, .int .u8, .int .u8, .int .u8, .int .u8, .int .u8, .int .u8, .int .u8, .int .u8, .int .u8, .int .u8, .int .u8, .int .u8, .int .u8, .int .u8, .int .u8, .int .u8, .int .u8, .int .u8, .int .u8, .int .u8, .int .u8, .int .u8, .int .u8, .int .u8, .int .u8, .int .u8, .int .u8, .int .u8, .int .u8, .int .u8, .int .u8] (a.map pbyte) (b.map pbyte) = some (decide (a = b)) := peqs_bytes 32 a b h1 h2
theorem q16 (a b : List UInt8) (h1 : a.length = 16) (h2 : b.length = 16) : peqs [.int .u8, .int .u8, .int .u8, .int .u8, .int .u8, .int .u8, .int .u8, .int .u8, .int .u8, .int .u8, .int .u8, .int .u8, .int .u8, .int .u8, .int .u8, .int .u8] (a.map pbyte) (b.map pbyte) = some (decide (a = b)) := peqs_bytes 16 a b h1 h2

/-- The globals of the program. -/
@[reducible] def GOk (G : Globs) : Prop := G 0 = .iptr (KS.map pw) 0 ∧ G 1 = .iptr (KS.map pw) 0

theorem hsum_lend {G : Globs} {σ : PState} {q : Bool} {d : Option Tmp} {K : PState → Prop} {n : Int} {len : Nat} (hG : G 1 = .iptr (KS.map pw) 0) (g : Bool) (b : List UInt8) (hlen : len = b.length) (hl : look σ.heap n = some ⟨5, g, 1, b.map pbyte⟩) (hb : b.length ≤ 4294960000)
    (h : K (PState.put σ d (.agg ((sha b).map pbyte)))) : @pcallI q Tryd.prog G σ d 11 [.row n 1 len] ⟨K⟩ := by
  subst hlen
  refine pcall_lend n ⟨5, g, 1, b.map pbyte⟩ hl (R := fun res H => res = .agg ((sha b).map pbyte) ∧ H = []) ?_ ?_
  · simp only [List.map_cons, List.map_nil, frz1, ↓reduceIte, List.length_map, Nat.mul_one, Nat.le_refl, Nat.zero_lt_one, and_self]
    rw [elemsOf_one (by simp), List.take_of_length_le (by simp)]
    exact hsum_c G hG b hb
  · rintro _ _ ⟨rfl, rfl⟩
    exact ⟨rfl, Flat_all (by
      intro c hc
      obtain ⟨w, _, rfl⟩ := List.mem_map.1 hc
      exact ⟨_, rfl⟩), h⟩
theorem hof_lend {G : Globs} {σ : PState} {q : Bool} {d : Option Tmp} {K : PState → Prop} {n : Int} {len : Nat} (hG : G 1 = .iptr (KS.map pw) 0) (tag : Int) (b : List (List UInt8)) (hlen : len = b.length) (t : TypeId) (hl : look σ.heap n = some ⟨t, true, 1, b.map pstr⟩) (h1 : ∀ p ∈ b, p.length ≤ 4000) (h2 : b.length ≤ 100)
    (h : K (PState.put σ d (.agg ((ofH tag b).map pbyte)))) : @pcallI q Tryd.prog G σ d 21 [pint .i64 tag, .row n 1 len] ⟨K⟩ := by
  subst hlen
  refine pcall_lend n ⟨t, true, 1, b.map pstr⟩ hl (R := fun res H => res = .agg ((ofH tag b).map pbyte) ∧ H = []) ?_ ?_
  · simp only [List.map_cons, List.map_nil, frz1, ↓reduceIte, List.length_map, Nat.mul_one, Nat.le_refl, Nat.zero_lt_one, and_self]
    rw [elemsOf_one (by simp), List.take_of_length_le (by simp)]
    exact hof_c G hG tag b h1 h2
  · rintro _ _ ⟨rfl, rfl⟩
    exact ⟨rfl, Flat_all (by
      intro c hc
      obtain ⟨w, _, rfl⟩ := List.mem_map.1 hc
      exact ⟨_, rfl⟩), h⟩

set_option maxRecDepth 100000 in
set_option maxHeartbeats 8000000 in
theorem sanity_c (G : Globs) (hG1 : G 1 = .iptr (KS.map pw) 0) : PCalls Tryd.prog G 10 [] [] (fun res H => res = pbool true ∧ H = []) := by
  have s1 := sha_len exB
  have a1 : PCalls Tryd.prog G 15 [stP [], .val (.string ⟨#[97]⟩)] [] (fun res H => res = stP [97] ∧ H = []) := add_c G hG1 [] [97] (by simp)
  have a2 : PCalls Tryd.prog G 15 [stP [97], .val (.string ⟨#[98, 99]⟩)] [] (fun res H => res = stP exB ∧ H = []) := add_c G hG1 [97] [98, 99] (by simp)
  have a3 := ssum_c G hG1 exB (by decide)
  have m1 : PCalls Tryd.prog G 18 [.val (.string ⟨#[74, 101, 102, 101]⟩), .val (.string ⟨#[119, 104, 97, 116, 32, 100, 111, 32, 121, 97, 32, 119, 97, 110, 116, 32, 102, 111, 114, 32, 110, 111, 116, 104, 105, 110, 103, 63]⟩)] [] (fun res H => res = pstr (mac exK exT) ∧ H = []) := mac_c G hG1 exK exT (by decide) (by decide)
  have x1 := hex_c G (sha exB) (by rw [s1]; decide)
  rw [hx1_eq, hx1] at x1
  have b1 := b32_c G (sha exB) s1
  have ml : (mac exK exT).length = 32 := sha_len _
  have x2 := hex_c G (mac exK exT) (by rw [ml]; decide)
  rw [hx2_eq, hx2] at x2
  have s3 := ofH_len 8 exP
  have x3 := hex_c G (ofH 8 exP) (by rw [s3]; decide)
  rw [hx3_eq, hx3] at x3
  have t3 := text_c G (ofH 8 exP) s3
  have e1 : PCalls Tryd.prog G 24 [.val (.string ⟨#[97, 98]⟩), .val (.string ⟨#[97, 98]⟩)] [] (fun res H => res = pbool true ∧ H = []) := equal_c G [97, 98] [97, 98] (by decide) (by decide)
  have e2 : PCalls Tryd.prog G 24 [.val (.string ⟨#[97, 98]⟩), .val (.string ⟨#[97, 99]⟩)] [] (fun res H => res = pbool false ∧ H = []) := equal_c G [97, 98] [97, 99] (by decide) (by decide)
  have e3 : PCalls Tryd.prog G 24 [.val (.string ⟨#[]⟩), .val (.string ⟨#[97]⟩)] [] (fun res H => res = pbool false ∧ H = []) := equal_c G [] [97] (by decide) (by decide)
  have o1 := all_one_byte (sha exB)
  have o3 := all_one_byte (ofH 8 exP)
  have k1 : List.take 32 ((sha exB).map pbyte) = (sha exB).map pbyte := List.take_of_length_le (by rw [List.length_map]; omega)
  have k3 : List.take 16 ((ofH 8 exP).map pbyte) = (ofH 8 exP).map pbyte := List.take_of_length_le (by rw [List.length_map]; omega)
  (refine PCalls_f Tryd.func10 rfl Tryd.ntmps10 Tryd.results10 (by simp) fun fin hfin => ?_; have hnm : True := trivial; simp (maxSteps := 2000000) (disch := omega) only [↓popG_eq, ↓pop.eq_1, ↓List.getElem?_map, ↓List.getElem?_cons_zero, ↓List.getElem?_cons_succ, pbuiltin, opnd, constPV, PState.put, fr_set, fr_getD_nil, fr_same, fr_other, layFrom, List.set, pnck, pguard_tt, pguard_tf, pguard_ft, pguard_ff, seqK, blockK, scopeK, List.map_cons, List.map_nil, List.getD_cons_zero, List.getD_cons_succ, List.getD_nil, List.getElem?_nil, Option.join_some, Option.join_none, pbin, pun, ppick, plen, pldop, pload, pfaddr, piaddr, pindex, pfield, pslice, pbound, pconv, pelems, pextract, pmm, parr, pbuild, pfill, PV.mem?, PV.one, PV.cells, pageq, peqs, peq1, palloc, pbox, pbuildS, pmakes, pstore, pappend, pcopy, pbytes, pmark, psrc, vcells, Value.oneCell', look, upd, del, names, Option.map_some, Option.map_none, List.length_cons, List.length_nil, List.all_cons, List.all_nil, Bool.and_true, Bool.true_and, Bool.not_true, Bool.not_false, List.take_zero, List.drop_zero, List.nil_append, List.cons_append, List.append_nil, Nat.reduceAdd, Nat.reduceMul, Nat.reduceSub, Nat.reduceLeDiff, Nat.reduceEqDiff, Nat.zero_add, Nat.add_zero, Nat.mul_one, Nat.zero_mul, List.drop_succ_cons, List.take_succ_cons, List.drop_nil, List.take_nil, ↓reduceIte, ne_eq, true_and, and_true, not_false_eq_true, reduceCtorEq, forall_const, List.toList_toArray, times, List.replicate_succ, List.replicate_zero, List.flatten_cons, List.flatten_nil, Value.cells, Int.toNat_natCast, Int.toNat_zero, Int.toNat_one, bl_mk, bl_lit, wr64, toNat_add1, toNat_sub1, map_getD, Int.natCast_nonneg, List.length_map, Bool.not_not, List.not_mem_nil, Option.some.injEq, exists_and_left, exists_eq_left', Int.cast_ofNat_Int, Int.natCast_zero, eq_self, List.size_toArray, Nat.reduceLT, Int.reduceLT, Int.reduceLE, Int.reduceToNat, Int.reduceAdd, Int.reduceSub, Int.reduceNeg, decide_true, decide_false, List.length_take, List.length_append, List.length_drop, hnm, Tryd.tf0, Tryd.tf2, Tryd.tf3, Tryd.tf4, Tryd.tf5, Tryd.tf9, Tryd.tf22, Tryd.tf24, Tryd.teq24, Tryd.tf27, Tryd.teq30, Tryd.teq31, Tryd.tf34, Tryd.teq43, Tryd.tf44, Tryd.teq44, Tryd.teq48, Tryd.teq54, Tryd.teq63, Tryd.call11, Tryd.call14, Tryd.call15, Tryd.call17, Tryd.call18, Tryd.call20, Tryd.call21, Tryd.call24, Tryd.call25, Tryd.call26])
  repeat' (first
    | (with_reducible apply W_seq_k; intro nx hnx)
    | with_reducible apply W_block
    | with_reducible apply W_scope
    | (with_reducible refine W_prune 127 ?_; simp only [prune_cons, prune_nil, Nat.reducePow, Nat.reduceDiv, Nat.reduceMod, Nat.reduceBEq, cond_true, cond_false]; with_reducible apply W_region_l)
    | ((first | (with_reducible apply WL_op; intro nx hnx) | with_reducible refine Ev_out ?_ | (with_reducible refine pfresh_k hnm fun nm hnm => ?_; (try simp only [List.forall_mem_cons, List.not_mem_nil, false_implies, implies_true, and_true, true_and, ne_eq] at hnm))); try (simp (maxSteps := 2000000) (disch := omega) only [↓popG_eq, ↓pop.eq_1, ↓List.getElem?_map, ↓List.getElem?_cons_zero, ↓List.getElem?_cons_succ, pbuiltin, opnd, constPV, PState.put, fr_set, fr_getD_nil, fr_same, fr_other, layFrom, List.set, pnck, pguard_tt, pguard_tf, pguard_ft, pguard_ff, seqK, blockK, scopeK, List.map_cons, List.map_nil, List.getD_cons_zero, List.getD_cons_succ, List.getD_nil, List.getElem?_nil, Option.join_some, Option.join_none, pbin, pun, ppick, plen, pldop, pload, pfaddr, piaddr, pindex, pfield, pslice, pbound, pconv, pelems, pextract, pmm, parr, pbuild, pfill, PV.mem?, PV.one, PV.cells, pageq, peqs, peq1, palloc, pbox, pbuildS, pmakes, pstore, pappend, pcopy, pbytes, pmark, psrc, vcells, Value.oneCell', look, upd, del, names, Option.map_some, Option.map_none, List.length_cons, List.length_nil, List.all_cons, List.all_nil, Bool.and_true, Bool.true_and, Bool.not_true, Bool.not_false, List.take_zero, List.drop_zero, List.nil_append, List.cons_append, List.append_nil, Nat.reduceAdd, Nat.reduceMul, Nat.reduceSub, Nat.reduceLeDiff, Nat.reduceEqDiff, Nat.zero_add, Nat.add_zero, Nat.mul_one, Nat.zero_mul, List.drop_succ_cons, List.take_succ_cons, List.drop_nil, List.take_nil, ↓reduceIte, ne_eq, true_and, and_true, not_false_eq_true, reduceCtorEq, forall_const, List.toList_toArray, times, List.replicate_succ, List.replicate_zero, List.flatten_cons, List.flatten_nil, Value.cells, Int.toNat_natCast, Int.toNat_zero, Int.toNat_one, bl_mk, bl_lit, wr64, toNat_add1, toNat_sub1, map_getD, Int.natCast_nonneg, List.length_map, Bool.not_not, List.not_mem_nil, Option.some.injEq, exists_and_left, exists_eq_left', Int.cast_ofNat_Int, Int.natCast_zero, eq_self, List.size_toArray, Nat.reduceLT, Int.reduceLT, Int.reduceLE, Int.reduceToNat, Int.reduceAdd, Int.reduceSub, Int.reduceNeg, decide_true, decide_false, List.length_take, List.length_append, List.length_drop, hnm, Tryd.tf0, Tryd.tf2, Tryd.tf3, Tryd.tf4, Tryd.tf5, Tryd.tf9, Tryd.tf22, Tryd.tf24, Tryd.teq24, Tryd.tf27, Tryd.teq30, Tryd.teq31, Tryd.tf34, Tryd.teq43, Tryd.tf44, Tryd.teq44, Tryd.teq48, Tryd.teq54, Tryd.teq63, Tryd.call11, Tryd.call14, Tryd.call15, Tryd.call17, Tryd.call18, Tryd.call20, Tryd.call21, Tryd.call24, Tryd.call25, Tryd.call26, s1, s3, o1, o3, k1, k3, q32, q16, beq_self_eq_true, decide_true]); repeat (refine And.intro (by omega) ?_))
    | ((first | with_reducible apply WL_nil | with_reducible apply W_label | with_reducible apply W_skip | with_reducible apply W_exit | with_reducible apply W_ret); try simp only [seqK, blockK, scopeK, ↓reduceIte, Nat.reduceEqDiff])
    | (with_reducible apply pguard_intro <;> (intro hc; (try simp only [decide_eq_true_eq, decide_eq_false_iff_not, reduceCtorEq, false_implies, true_implies, and_true, true_and, Bool.not_eq_true, Bool.not_eq_false, forall_const, bne_iff_ne, bne_eq_false_iff_eq, beq_iff_eq, beq_eq_false_iff_ne, ne_eq, Decidable.not_not, Bool.not_eq_eq_eq_not, Bool.not_true, Bool.not_false, Bool.and_eq_true, Bool.or_eq_true, Int.natCast_inj, Bool.and_eq_false_iff, Bool.or_eq_false_iff] at hc); first | (exfalso; omega) | (exfalso; exact hc trivial) | refine Ev_in ?_))
    | (with_reducible apply W_cond_k; intro _ _ ea eb; (simp only [condK, not_true_eq_false, not_false_eq_true, opnd, constPV, List.getD_cons_zero, List.getD_cons_succ, fr_getD_cons, fr_getD_nil, Nat.reduceEqDiff, Nat.reduceLT, ↓reduceIte, decide_eq_true_eq, decide_eq_false_iff_not, reduceCtorEq, false_implies, true_implies, and_true, true_and, Bool.not_eq_true, Bool.not_eq_false, forall_const, bne_iff_ne, bne_eq_false_iff_eq, beq_iff_eq, beq_eq_false_iff_ne, ne_eq, Decidable.not_not, Bool.not_eq_eq_eq_not, Bool.not_true, Bool.not_false, Bool.and_eq_true, Bool.or_eq_true, Int.natCast_inj, Bool.and_eq_false_iff, Bool.or_eq_false_iff]); subst ea eb; first | (refine ⟨fun hc => ?_, fun hc => ?_⟩ <;> first | (exfalso; omega) | (exfalso; exact hc trivial) | skip) | skip)
    | (with_reducible apply hnx; clear hnx nx)
    | (with_reducible refine And.intro (by omega) ?_)
    | (with_reducible refine And.intro ?_ ?_)
    | (with_reducible refine pcall_k (begin_c G) ?_; rintro _ _ ⟨rfl, rfl⟩ -; refine Ev_in ?_)
    | (with_reducible refine pcall_k (a1) ?_; rintro _ _ ⟨rfl, rfl⟩ -; refine Ev_in ?_)
    | (with_reducible refine pcall_k (a2) ?_; rintro _ _ ⟨rfl, rfl⟩ -; refine Ev_in ?_)
    | (with_reducible refine pcall_k (a3) ?_; rintro _ _ ⟨rfl, rfl⟩ -; refine Ev_in ?_)
    | (with_reducible refine pcall_k (m1) ?_; rintro _ _ ⟨rfl, rfl⟩ -; refine Ev_in ?_)
    | (with_reducible refine pcall_k (x1) ?_; rintro _ _ ⟨rfl, rfl⟩ -; refine Ev_in ?_)
    | (with_reducible refine pcall_k (b1) ?_; rintro _ _ ⟨rfl, rfl⟩ -; refine Ev_in ?_)
    | (with_reducible refine pcall_k (x2) ?_; rintro _ _ ⟨rfl, rfl⟩ -; refine Ev_in ?_)
    | (with_reducible refine pcall_k (x3) ?_; rintro _ _ ⟨rfl, rfl⟩ -; refine Ev_in ?_)
    | (with_reducible refine pcall_k (t3) ?_; rintro _ _ ⟨rfl, rfl⟩ -; refine Ev_in ?_)
    | (with_reducible refine pcall_k (e1) ?_; rintro _ _ ⟨rfl, rfl⟩ -; refine Ev_in ?_)
    | (with_reducible refine pcall_k (e2) ?_; rintro _ _ ⟨rfl, rfl⟩ -; refine Ev_in ?_)
    | (with_reducible refine pcall_k (e3) ?_; rintro _ _ ⟨rfl, rfl⟩ -; refine Ev_in ?_)
    | (refine hsum_lend hG1 false exB rfl (by simp [look, hnm]; rfl) (by decide) ?_; refine Ev_in ?_)
    | (refine hof_lend hG1 8 exP rfl _ (by simp [look, hnm]; first | done | rfl | exact ⟨rfl, rfl⟩) (by decide) (by decide) ?_; refine Ev_in ?_)
    | (clear hnx nx; with_reducible apply hnx; clear hnx nx)
    | (clear hnx nx; clear hnx nx; with_reducible apply hnx; clear hnx nx)
    | (clear hnx nx; clear hnx nx; clear hnx nx; with_reducible apply hnx; clear hnx nx))
  all_goals first
    | exact rfl
    | (refine hfin _ _ (Fin_ret1 rfl (Sub_nil _) ?_); simp only [List.getD_cons_zero, List.getD_cons_succ, fr_getD_cons, fr_getD_nil, Nat.reduceEqDiff, Nat.reduceLT, ↓reduceIte]; first | trivial | exact ⟨rfl, by trivial⟩ | (simp; done) | (simp; omega))
end Go.PM
