/- Joined texts (Gh Md Ma Mt Mq Gi Gj Gk Gl Gm Mi Me Mf Mg): the machine, the contracts, the laws. Conditions: none but those that each names. -/
import Derived.Test.YtoffobakidenhaaDoorJe
set_option linter.unusedSimpArgs false
set_option linter.unusedVariables false
namespace Go.PM
open Go.Proofs
attribute [local irreducible] W PCalls pcall pcallI WL
/-- The values of some chains, one behind the other. -/
def catF (vals : Nat → List UInt8) (n : Nat) : List UInt8 := (List.range n).flatMap vals
theorem catF_zero (vals : Nat → List UInt8) : catF vals 0 = [] := rfl
theorem catF_succ (vals : Nat → List UInt8) (n : Nat) : catF vals (n + 1) = catF vals n ++ vals n := by
  simp [catF, List.range_succ]
theorem catF_len {vals : Nat → List UInt8} (h : ∀ c, (vals c).length = 16) : ∀ n, (catF vals n).length = 16 * n
  | 0 => rfl
  | n + 1 => by rw [catF_succ, List.length_append, catF_len h n, h]; omega
/-- The lowest node for the values of all chains. -/
def leafF (vals : Nat → List UInt8) : List UInt8 := ofH 1 [ofH 9 [catF vals 68]]
theorem leafF_len (vals : Nat → List UInt8) : (leafF vals).length = 16 := ofH_len _ _
/-- The value of a chain at its top. -/
def topF (seed : List UInt8) (i : Int) (c : Nat) : List UInt8 := advF i c 0 (3 - 0 : Int).toNat (startF seed i c)
theorem topF_len (seed : List UInt8) (i : Int) (c : Nat) : (topF seed i c).length = 16 := advF_len _ _ _ _ _ (startF_len _ _ _)
theorem all_lt1 {p : List UInt8 → Prop} {a : List UInt8} (h1 : p a) : ∀ x ∈ [a], p x := by
  intro x hx
  rw [List.mem_singleton.1 hx]
  exact h1
set_option maxRecDepth 100000 in
set_option maxHeartbeats 8000000 in
theorem rleaf_c (G : Globs) (hG : G 0 = .iptr (KS.map pw) 0) (seed : List UInt8) (hs : seed.length ≤ 4000) (i : Int) (hi : inR i) :
    PCalls Tryd.prog G 46 [pstr seed, pint .i64 i] [] (fun res H => res = .agg ((leafF (topF seed i)).map pbyte) ∧ H = []) := by
  have hlen := catF_len (topF_len seed i)
  obtain ⟨Z, hZ⟩ : ∃ Z, Z = List.replicate 16 (pint .u8 0) := ⟨_, rfl⟩
  have hZ2 : [pint .u8 0, pint .u8 0, pint .u8 0, pint .u8 0, pint .u8 0, pint .u8 0, pint .u8 0, pint .u8 0, pint .u8 0, pint .u8 0, pint .u8 0, pint .u8 0, pint .u8 0, pint .u8 0, pint .u8 0, pint .u8 0] = Z := by rw [hZ]; rfl
  have hZl : Z.length = 16 := by rw [hZ]; rfl
  have hZd : List.drop 16 Z = [] := List.drop_of_length_le (by omega)
  (refine PCalls_f Tryd.func46 rfl Tryd.ntmps46 Tryd.results46 (by simp) fun fin hfin => ?_; have hnm : True := trivial; simp (maxSteps := 2000000) (disch := omega) only [evb, evd, eve, constPV, seqK, blockK, scopeK, pbound, pelems, PV.mem?, PV.one, PV.cells, peqs, peq1, pkeys, List.set, Value.cells, ↓popG_eq, ↓pop.eq_1, ↓List.getElem?_map, ↓List.getElem?_cons_zero, ↓List.getElem?_cons_succ, Value.oneCell', Nat.reduceAdd, Nat.reduceMul, Nat.reduceSub, Nat.reduceLeDiff, Nat.reduceEqDiff, ↓reduceIte, ne_eq, reduceCtorEq, forall_const, exists_and_left, exists_eq_left', eq_self, Nat.reduceLT, Int.reduceLT, Int.reduceLE, Int.reduceToNat, Int.reduceAdd, Int.reduceSub, Int.reduceNeg, hnm, Tryd.tf0, Tryd.tf1, Tryd.tf3, Tryd.tf4, Tryd.tf5, Tryd.tf9, Tryd.tf23, Tryd.tf66, Tryd.call31, Tryd.call32, Tryd.call33, Tryd.call35])
  repeat' (first
    | (with_reducible apply W_seq_k; intro nx hnx)
    | (with_reducible first | apply W_block | apply W_scope)
    | (with_reducible refine W_prune 243 ?_; simp only [prb, Nat.reducePow, Nat.reduceDiv, Nat.reduceMod, Nat.reduceBEq]; with_reducible apply W_region_l)
    | ((first | (with_reducible apply WL_op; intro nx hnx) | with_reducible refine Ev_out ?_ | (with_reducible refine pfresh_k hnm fun nm hnm => ?_; (try simp only [fmb] at hnm)) | (with_reducible refine pborn_mu hnm fun nm hnm => ?_; (try simp only [fmb] at hnm))); try (simp (maxSteps := 2000000) (disch := omega) only [evb, evd, eve, constPV, seqK, blockK, scopeK, pbound, pelems, PV.mem?, PV.one, PV.cells, peqs, peq1, pkeys, List.set, Value.cells, ↓popG_eq, ↓pop.eq_1, ↓List.getElem?_map, ↓List.getElem?_cons_zero, ↓List.getElem?_cons_succ, Value.oneCell', Nat.reduceAdd, Nat.reduceMul, Nat.reduceSub, Nat.reduceLeDiff, Nat.reduceEqDiff, ↓reduceIte, ne_eq, reduceCtorEq, forall_const, exists_and_left, exists_eq_left', eq_self, Nat.reduceLT, Int.reduceLT, Int.reduceLE, Int.reduceToNat, Int.reduceAdd, Int.reduceSub, Int.reduceNeg, hnm, Tryd.tf0, Tryd.tf1, Tryd.tf3, Tryd.tf4, Tryd.tf5, Tryd.tf9, Tryd.tf23, Tryd.tf66, Tryd.call31, Tryd.call32, Tryd.call33, Tryd.call35]); repeat (refine And.intro (by omega) ?_))
    | ((with_reducible first | apply WL_nil | apply W_label | apply W_skip | apply W_exit | apply W_ret); try simp only [seqK, blockK, scopeK, ↓reduceIte, Nat.reduceEqDiff])
    | (with_reducible apply W_cond_k; intro _ _ ea eb; (simp only [condK, cob, opnd, constPV, Nat.reduceEqDiff, Nat.reduceLT, ↓reduceIte, hcb, reduceCtorEq, forall_const, ne_eq]); subst ea eb; first | (refine ⟨fun hc => ?_, fun hc => ?_⟩ <;> first | (exfalso; omega) | (exfalso; exact hc trivial) | skip) | skip)
    | (with_reducible apply hnx; clear hnx nx)
    | (with_reducible refine And.intro (by omega) ?_)
    | (with_reducible refine And.intro ?_ ?_)
    | (clear hnx nx; with_reducible apply hnx; clear hnx nx)
    | (clear hnx nx; clear hnx nx; with_reducible apply hnx; clear hnx nx))
  obtain ⟨NA, hNA⟩ : ∃ N, N = nm := ⟨_, rfl⟩
  subst hNA
  refine W_loop_k (fun z τ => ∃ (c : Nat) (s : List UInt8), c ≤ 68 ∧ z = 68 - c ∧ s = catF (topF seed i) c ∧
      τ = ⟨fr 29 [(5, pstr s), (6, pint .i64 c), (0, pstr seed), (1, pint .i64 i), (4, .ptr NA 0)], [(NA, ⟨23, false, 0, Z⟩)]⟩) 68
    ⟨fr 29 [(5, .val (.string ⟨#[]⟩)), (6, pint .i64 (0 : Nat)), (0, pstr seed), (1, pint .i64 i), (4, .ptr NA 0)], [(NA, ⟨23, false, 0, Z⟩)]⟩ (by
    rw [← hZ2]
    refine Wk_fr (by simp only [wkb, Nat.reduceEqDiff, Nat.reduceLT, ↓reduceIte]) ?_
    exact Sub_refl (by simp [names, hnm])) ⟨0, [], by omega, by omega, rfl, rfl⟩ ?_
  rintro z τ ⟨c, s, hc, rfl, hsc, rfl⟩ lp hlp
  have hsl : s.length = 16 * c := by rw [hsc, hlen]
  by_cases hlt : c < 68
  · have hcR : inR (c : Int) := ⟨by omega, by omega⟩
    have c1 := rstart_c G hG seed hs i c hi hcR
    have c2 := radv_c G hG i c 0 3 (startF seed i c) hi hcR (by omega) (by omega) (by omega) (by omega) (startF_len _ _ _)
    have c3 := text_c G (topF seed i c) (topF_len _ _ _)
    have hsu := catF_succ (topF seed i) c
    rw [← hsc] at hsu
    rw [show advF i c 0 (3 - 0 : Int).toNat (startF seed i c) = topF seed i c from rfl] at c2
    obtain ⟨u, hu⟩ : ∃ u, u = s ++ topF seed i c := ⟨_, rfl⟩
    have htl := topF_len seed i c
    have hul : u.length = 16 * (c + 1) := by rw [hu, List.length_append, hsl, htl]; omega
    generalize topF seed i c = t at *
    generalize startF seed i c = v at *
    repeat' (first
    | (with_reducible apply W_seq_k; intro nx hnx)
    | (with_reducible first | apply W_block | apply W_scope)
    | (with_reducible refine W_prune 243 ?_; simp only [prb, Nat.reducePow, Nat.reduceDiv, Nat.reduceMod, Nat.reduceBEq]; with_reducible apply W_region_l)
    | ((first | (with_reducible apply WL_op; intro nx hnx) | with_reducible refine Ev_out ?_ | (with_reducible refine pfresh_k hnm fun nm hnm => ?_; (try simp only [fmb] at hnm)) | (with_reducible refine pborn_mu hnm fun nm hnm => ?_; (try simp only [fmb] at hnm))); try (simp (maxSteps := 2000000) (disch := omega) only [evb, evd, eve, constPV, seqK, blockK, scopeK, pbound, pelems, PV.mem?, PV.one, PV.cells, peqs, peq1, pkeys, List.set, Value.cells, ↓popG_eq, ↓pop.eq_1, ↓List.getElem?_map, ↓List.getElem?_cons_zero, ↓List.getElem?_cons_succ, Value.oneCell', Nat.reduceAdd, Nat.reduceMul, Nat.reduceSub, Nat.reduceLeDiff, Nat.reduceEqDiff, ↓reduceIte, ne_eq, reduceCtorEq, forall_const, exists_and_left, exists_eq_left', eq_self, Nat.reduceLT, Int.reduceLT, Int.reduceLE, Int.reduceToNat, Int.reduceAdd, Int.reduceSub, Int.reduceNeg, hnm, Tryd.tf0, Tryd.tf1, Tryd.tf3, Tryd.tf4, Tryd.tf5, Tryd.tf9, Tryd.tf23, Tryd.tf66, Tryd.call31, Tryd.call32, Tryd.call33, Tryd.call35, ← hu, hsl, htl, hul]); repeat (refine And.intro (by omega) ?_))
    | ((with_reducible first | apply WL_nil | apply W_label | apply W_skip | apply W_exit | apply W_ret); try simp only [seqK, blockK, scopeK, ↓reduceIte, Nat.reduceEqDiff])
    | (with_reducible apply W_cond_k; intro _ _ ea eb; (simp only [condK, cob, opnd, constPV, Nat.reduceEqDiff, Nat.reduceLT, ↓reduceIte, hcb, reduceCtorEq, forall_const, ne_eq]); subst ea eb; first | (refine ⟨fun hc => ?_, fun hc => ?_⟩ <;> first | (exfalso; omega) | (exfalso; exact hc trivial) | skip) | skip)
    | (with_reducible apply hnx; clear hnx nx)
    | (with_reducible refine And.intro (by omega) ?_)
    | (with_reducible refine And.intro ?_ ?_)
    | (with_reducible refine pcall_k (c1) ?_; rintro _ _ ⟨rfl, rfl⟩ -; refine Ev_in ?_)
    | (with_reducible refine pcall_k (c2) ?_; rintro _ _ ⟨rfl, rfl⟩ -; refine Ev_in ?_)
    | (with_reducible refine pcall_k (c3) ?_; rintro _ _ ⟨rfl, rfl⟩ -; refine Ev_in ?_)
    | (clear hnx nx; with_reducible apply hnx; clear hnx nx)
    | (clear hnx nx; clear hnx nx; with_reducible apply hnx; clear hnx nx))
    all_goals first
      | exact rfl
      | (exfalso
         omega)
      | (refine hlp _ (68 - (c + 1)) _ (by omega) ?_ ⟨c + 1, u, by omega, rfl, by rw [hsu, hu], rfl⟩
         refine Wk_fr (by simp only [wkb, Nat.reduceEqDiff, Nat.reduceLT, ↓reduceIte]) ?_
         exact Sub_refl (by simp [names, hnm]))
  · obtain rfl : c = 68 := by omega
    have k1 := rof_c G hG 9 [s] (all_lt1 (by omega)) (by simp)
    have k2 := text_c G (ofH 9 [s]) (ofH_len _ _)
    have k3 := rof_c G hG 1 [ofH 9 [s]] (all_lt1 (by rw [ofH_len]; omega)) (by simp)
    have hol := leafF_len (topF seed i)
    rw [show ofH 1 [ofH 9 [s]] = leafF (topF seed i) by rw [hsc]; rfl] at k3
    simp only [List.map_cons, List.map_nil] at k1 k3
    have hql := ofH_len 9 [s]
    generalize leafF (topF seed i) = f at *
    generalize ofH 9 [s] = q at *
    have hone := all_one_byte f
    have hol2 : (f.map pbyte).length = 16 := by rw [List.length_map, hol]
    have t3 : List.take 16 (f.map pbyte) = f.map pbyte := List.take_of_length_le (by omega)
    have hqo := all_one_byte q
    have hq2 : (q.map pbyte).length = 16 := by rw [List.length_map, hql]
    have tq : List.take 16 (q.map pbyte) = q.map pbyte := List.take_of_length_le (by omega)
    repeat' (first
    | (with_reducible apply W_seq_k; intro nx hnx)
    | (with_reducible first | apply W_block | apply W_scope)
    | (with_reducible refine W_prune 243 ?_; simp only [prb, Nat.reducePow, Nat.reduceDiv, Nat.reduceMod, Nat.reduceBEq]; with_reducible apply W_region_l)
    | (with_reducible refine WL_born (by simp) rfl (by simp) ?_; simp only [elemsOf, nl, List.map_cons, List.map_nil, Nat.reduceEqDiff, ↓reduceIte, List.take_succ_cons, List.take_zero, List.range_succ, List.range_zero, List.nil_append, List.cons_append, List.map_append, List.drop_succ_cons, List.drop_zero, Nat.reduceMul, Nat.zero_mul, Nat.one_mul, Nat.reduceAdd])
    | (with_reducible refine WL_bornH (by simp) (by simp) ?_ ?_ ?_; (· simp [frz, frz1, hnm]); (· simp [frz1, hnm, PV.one, Value.oneCell']); simp only [elemsOf, nl, List.map_cons, List.map_nil, Nat.reduceEqDiff, ↓reduceIte, List.take_succ_cons, List.take_zero, List.range_succ, List.range_zero, List.nil_append, List.cons_append, List.map_append, List.drop_succ_cons, List.drop_zero, Nat.reduceMul, Nat.zero_mul, Nat.one_mul, Nat.reduceAdd])
    | ((first | (with_reducible apply WL_op; intro nx hnx) | with_reducible refine Ev_out ?_ | (with_reducible refine pfresh_k hnm fun nm hnm => ?_; (try simp only [fmb] at hnm)) | (with_reducible refine pborn_im ?_; simp only [elemsOf, nl, List.map_cons, List.map_nil, Nat.reduceEqDiff, ↓reduceIte, List.take_succ_cons, List.take_zero, List.range_succ, List.range_zero, List.nil_append, List.cons_append, List.map_append, List.drop_succ_cons, List.drop_zero, Nat.reduceMul, Nat.zero_mul, Nat.one_mul, Nat.reduceAdd])); try (simp (maxSteps := 2000000) (disch := omega) only [evb, evd, eve, constPV, seqK, blockK, scopeK, pbound, pelems, PV.mem?, PV.one, PV.cells, peqs, peq1, pkeys, List.set, Value.cells, ↓popG_eq, ↓pop.eq_1, ↓List.getElem?_map, ↓List.getElem?_cons_zero, ↓List.getElem?_cons_succ, Value.oneCell', Nat.reduceAdd, Nat.reduceMul, Nat.reduceSub, Nat.reduceLeDiff, Nat.reduceEqDiff, ↓reduceIte, ne_eq, reduceCtorEq, forall_const, exists_and_left, exists_eq_left', eq_self, Nat.reduceLT, Int.reduceLT, Int.reduceLE, Int.reduceToNat, Int.reduceAdd, Int.reduceSub, Int.reduceNeg, hnm, Tryd.tf0, Tryd.tf1, Tryd.tf3, Tryd.tf4, Tryd.tf5, Tryd.tf9, Tryd.tf23, Tryd.tf66, Tryd.call31, Tryd.call32, Tryd.call33, Tryd.call35, hone, hol2, t3, hqo, hq2, tq, hZl, hZd]); repeat (refine And.intro (by omega) ?_))
    | ((with_reducible first | apply WL_nil | apply W_label | apply W_skip | apply W_exit | apply W_ret); try simp only [seqK, blockK, scopeK, ↓reduceIte, Nat.reduceEqDiff])
    | (with_reducible apply W_cond_k; intro _ _ ea eb; (simp only [condK, cob, opnd, constPV, Nat.reduceEqDiff, Nat.reduceLT, ↓reduceIte, hcb, reduceCtorEq, forall_const, ne_eq]); subst ea eb; first | (refine ⟨fun hc => ?_, fun hc => ?_⟩ <;> first | (exfalso; omega) | (exfalso; exact hc trivial) | skip) | skip)
    | (with_reducible apply hnx; clear hnx nx)
    | (with_reducible refine And.intro (by omega) ?_)
    | (with_reducible refine And.intro ?_ ?_)
    | (with_reducible refine pcall_k (k1) ?_; rintro _ _ ⟨rfl, rfl⟩ -; refine Ev_in ?_)
    | (with_reducible refine pcall_k (k2) ?_; rintro _ _ ⟨rfl, rfl⟩ -; refine Ev_in ?_)
    | (with_reducible refine pcall_k (k3) ?_; rintro _ _ ⟨rfl, rfl⟩ -; refine Ev_in ?_)
    | (clear hnx nx; with_reducible apply hnx; clear hnx nx)
    | (clear hnx nx; clear hnx nx; with_reducible apply hnx; clear hnx nx))
    all_goals first
      | exact rfl
      | (exfalso
         omega)
      | (refine hfin _ _ ?_
         exact Fin_dig (n := NA) (by simp only [fr_getD_cons, Nat.reduceEqDiff, Nat.reduceLT, ↓reduceIte]) (by simp [look, hnm]) hol ⟨rfl, rfl⟩)
end Go.PM

namespace Go.PM
open Go.Proofs
attribute [local irreducible] W PCalls pcall pcallI WL
set_option maxRecDepth 100000 in
set_option maxHeartbeats 8000000 in
theorem leaf_c (G : Globs) (hG : G 1 = .iptr (KS.map pw) 0) (f : FuncId) (caps : List PV) (vals : Nat → List UInt8) (hv : ∀ c, c < 68 → (vals c).length = 16) (hcall : callable Tryd.prog f = true)
    (hc : ∀ c : Nat, c < 68 → PCalls Tryd.prog G f (pint .i64 c :: caps) [] (fun res H => res = .agg ((vals c).map pbyte) ∧ H = [])) :
    PCalls Tryd.prog G 38 [.func f caps] [] (fun res H => res = .agg ((leafF vals).map pbyte) ∧ H = []) := by
  obtain ⟨Z, hZ⟩ : ∃ Z, Z = List.replicate 16 (pint .u8 0) := ⟨_, rfl⟩
  have hZ2 : [pint .u8 0, pint .u8 0, pint .u8 0, pint .u8 0, pint .u8 0, pint .u8 0, pint .u8 0, pint .u8 0, pint .u8 0, pint .u8 0, pint .u8 0, pint .u8 0, pint .u8 0, pint .u8 0, pint .u8 0, pint .u8 0] = Z := by rw [hZ]; rfl
  have hZl : Z.length = 16 := by rw [hZ]; rfl
  have hZd : List.drop 16 Z = [] := List.drop_of_length_le (by omega)
  have hZo : Z.all PV.one = true := by rw [hZ]; rfl
  (refine PCalls_f Tryd.func38 rfl Tryd.ntmps38 Tryd.results38 (by simp) fun fin hfin => ?_; have hnm : True := trivial; simp (maxSteps := 2000000) (disch := omega) only [evb, evd, eve, constPV, seqK, blockK, scopeK, pbound, pelems, PV.mem?, PV.one, PV.cells, peqs, peq1, pkeys, List.set, Value.cells, ↓popG_eq, ↓pop.eq_1, ↓List.getElem?_map, ↓List.getElem?_cons_zero, ↓List.getElem?_cons_succ, Value.oneCell', Nat.reduceAdd, Nat.reduceMul, Nat.reduceSub, Nat.reduceLeDiff, Nat.reduceEqDiff, ↓reduceIte, ne_eq, reduceCtorEq, forall_const, exists_and_left, exists_eq_left', eq_self, Nat.reduceLT, Int.reduceLT, Int.reduceLE, Int.reduceToNat, Int.reduceAdd, Int.reduceSub, Int.reduceNeg, hnm, Tryd.tf0, Tryd.tf1, Tryd.tf3, Tryd.tf4, Tryd.tf5, Tryd.tf9, Tryd.tf23, Tryd.tf52, Tryd.tf54, Tryd.tf57, Tryd.tf66, Tryd.tf69, Tryd.call25, Tryd.call29, Tryd.call34])
  repeat' (first
    | (with_reducible apply W_seq_k; intro nx hnx)
    | (with_reducible first | apply W_block | apply W_scope)
    | (with_reducible refine W_prune 253 ?_; simp only [prb, Nat.reducePow, Nat.reduceDiv, Nat.reduceMod, Nat.reduceBEq]; with_reducible apply W_region_l)
    | ((first | (with_reducible apply WL_op; intro nx hnx) | with_reducible refine Ev_out ?_ | (with_reducible refine pfresh_k hnm fun nm hnm => ?_; (try simp only [fmb] at hnm)) | (with_reducible refine pborn_mu hnm fun nm hnm => ?_; (try simp only [fmb] at hnm))); try (simp (maxSteps := 2000000) (disch := omega) only [evb, evd, eve, constPV, seqK, blockK, scopeK, pbound, pelems, PV.mem?, PV.one, PV.cells, peqs, peq1, pkeys, List.set, Value.cells, ↓popG_eq, ↓pop.eq_1, ↓List.getElem?_map, ↓List.getElem?_cons_zero, ↓List.getElem?_cons_succ, Value.oneCell', Nat.reduceAdd, Nat.reduceMul, Nat.reduceSub, Nat.reduceLeDiff, Nat.reduceEqDiff, ↓reduceIte, ne_eq, reduceCtorEq, forall_const, exists_and_left, exists_eq_left', eq_self, Nat.reduceLT, Int.reduceLT, Int.reduceLE, Int.reduceToNat, Int.reduceAdd, Int.reduceSub, Int.reduceNeg, hnm, Tryd.tf0, Tryd.tf1, Tryd.tf3, Tryd.tf4, Tryd.tf5, Tryd.tf9, Tryd.tf23, Tryd.tf52, Tryd.tf54, Tryd.tf57, Tryd.tf66, Tryd.tf69, Tryd.call25, Tryd.call29, Tryd.call34]); repeat (refine And.intro (by omega) ?_))
    | ((with_reducible first | apply WL_nil | apply W_label | apply W_skip | apply W_exit | apply W_ret); try simp only [seqK, blockK, scopeK, ↓reduceIte, Nat.reduceEqDiff])
    | (with_reducible apply W_cond_k; intro _ _ ea eb; (simp only [condK, cob, opnd, constPV, Nat.reduceEqDiff, Nat.reduceLT, ↓reduceIte, hcb, reduceCtorEq, forall_const, ne_eq]); subst ea eb; first | (refine ⟨fun hc => ?_, fun hc => ?_⟩ <;> first | (exfalso; omega) | (exfalso; exact hc trivial) | skip) | skip)
    | (with_reducible apply hnx; clear hnx nx)
    | (with_reducible refine And.intro (by omega) ?_)
    | (with_reducible refine And.intro ?_ ?_)
    | (clear hnx nx; with_reducible apply hnx; clear hnx nx)
    | (clear hnx nx; clear hnx nx; with_reducible apply hnx; clear hnx nx))
  obtain ⟨NB, hNB⟩ : ∃ N, N = nm := ⟨_, rfl⟩
  subst hNB
  obtain ⟨NA, hNA⟩ : ∃ N, N = nm := ⟨_, rfl⟩
  subst hNA
  refine W_loop_k (fun z τ => ∃ (c : Nat) (s : List UInt8) (HB : Heap), c ≤ 68 ∧ z = 68 - c ∧ s = catF vals c ∧ s.length = 16 * c ∧ BS NB s HB ∧ (names (HB ++ [(NA, ⟨23, false, 0, Z⟩)])).Nodup ∧
      τ = ⟨fr 23 [(7, pint .i64 c), (3, .ptr NB 0), (2, .ptr NA 0), (0, .func f caps)], HB ++ [(NA, ⟨23, false, 0, Z⟩)]⟩) 68
    ⟨fr 23 [(7, pint .i64 (0 : Nat)), (3, .ptr NB 0), (2, .ptr NA 0), (0, .func f caps)], [(NB, ⟨54, false, 0, [.val (.pointer none), pnil]⟩)] ++ [(NA, ⟨23, false, 0, Z⟩)]⟩ (by
    rw [← hZ2]
    refine Wk_fr (by simp only [wkb, Nat.reduceEqDiff, Nat.reduceLT, ↓reduceIte]) ?_
    exact Sub_refl (by simp [names, hnm])) ⟨0, [], _, by omega, by omega, rfl, rfl, .inl ⟨rfl, rfl⟩, by simp [names, hnm], rfl⟩ ?_
  rintro z τ ⟨c, s, HB, hcl, rfl, hs, hsl, hB, hnd, rfl⟩ lp hlp
  by_cases hlt : c < 68
  · have c1 := hc c hlt
    have hvl := hv c hlt
    have hsu := catF_succ vals c
    obtain ⟨u, hu⟩ : ∃ u, u = s ++ vals c := ⟨_, rfl⟩
    have hul : u = catF vals (c + 1) := by rw [hu, hs, hsu]
    have hull : u.length = 16 * (c + 1) := by rw [hu, List.length_append, hsl, hvl]; omega
    generalize vals c = x at *
    have cw := fun v => writeA_c G NB v s x hvl (by omega) HB hB
    rw [← hu] at cw
    have hxl : (x.map pbyte).length = 16 := by rw [List.length_map, hvl]
    have tx : List.take 16 (x.map pbyte) = x.map pbyte := List.take_of_length_le (by omega)
    have hxo := all_one_byte x
    repeat' (first
    | (with_reducible apply W_seq_k; intro nx hnx)
    | (with_reducible first | apply W_block | apply W_scope)
    | (with_reducible refine W_prune 253 ?_; simp only [prb, Nat.reducePow, Nat.reduceDiv, Nat.reduceMod, Nat.reduceBEq]; with_reducible apply W_region_l)
    | ((first | (with_reducible apply WL_op; intro nx hnx) | with_reducible refine Ev_out ?_ | (with_reducible refine pfresh_k hnm fun nm hnm => ?_; (try simp only [fmb] at hnm)) | (with_reducible refine pborn_mu hnm fun nm hnm => ?_; (try simp only [fmb] at hnm))); try (simp (maxSteps := 2000000) (disch := omega) only [evb, evd, eve, constPV, seqK, blockK, scopeK, pbound, pelems, PV.mem?, PV.one, PV.cells, peqs, peq1, pkeys, List.set, Value.cells, ↓popG_eq, ↓pop.eq_1, ↓List.getElem?_map, ↓List.getElem?_cons_zero, ↓List.getElem?_cons_succ, Value.oneCell', Nat.reduceAdd, Nat.reduceMul, Nat.reduceSub, Nat.reduceLeDiff, Nat.reduceEqDiff, ↓reduceIte, ne_eq, reduceCtorEq, forall_const, exists_and_left, exists_eq_left', eq_self, Nat.reduceLT, Int.reduceLT, Int.reduceLE, Int.reduceToNat, Int.reduceAdd, Int.reduceSub, Int.reduceNeg, hnm, Tryd.tf0, Tryd.tf1, Tryd.tf3, Tryd.tf4, Tryd.tf5, Tryd.tf9, Tryd.tf23, Tryd.tf52, Tryd.tf54, Tryd.tf57, Tryd.tf66, Tryd.tf69, Tryd.call25, Tryd.call29, Tryd.call34, hcall, hxl, tx, hxo, hZ2, hZl, hZd, hZo]); repeat (refine And.intro (by omega) ?_))
    | ((with_reducible first | apply WL_nil | apply W_label | apply W_skip | apply W_exit | apply W_ret); try simp only [seqK, blockK, scopeK, ↓reduceIte, Nat.reduceEqDiff])
    | (with_reducible apply W_cond_k; intro _ _ ea eb; (simp only [condK, cob, opnd, constPV, Nat.reduceEqDiff, Nat.reduceLT, ↓reduceIte, hcb, reduceCtorEq, forall_const, ne_eq]); subst ea eb; first | (refine ⟨fun hc => ?_, fun hc => ?_⟩ <;> first | (exfalso; omega) | (exfalso; exact hc trivial) | skip) | skip)
    | (with_reducible apply hnx; clear hnx nx)
    | (with_reducible refine And.intro (by omega) ?_)
    | (with_reducible refine And.intro ?_ ?_)
    | (with_reducible refine pcall_k (c1) ?_; rintro _ _ ⟨rfl, rfl⟩ -; refine Ev_in ?_)
    | ((refine pcall_midn [] (_ :: HB) [(NA, ⟨23, false, 0, Z⟩)] (by simp) (cw _) ?_; rintro _ H2 ⟨rfl, hB2⟩ nd2; refine Ev_in ?_))
    | (clear hnx nx; with_reducible apply hnx; clear hnx nx)
    | (clear hnx nx; clear hnx nx; with_reducible apply hnx; clear hnx nx))
    all_goals first
      | exact rfl
      | (exfalso
         omega)
      | (refine hlp _ (68 - (c + 1)) _ (by omega) ?_ ⟨c + 1, u, H2, by omega, rfl, hul, hull, hB2, nd2, rfl⟩
         refine Wk_fr (by simp only [wkb, Nat.reduceEqDiff, Nat.reduceLT, ↓reduceIte]) ?_
         exact Sub_refl nd2)
  · obtain rfl : c = 68 := by omega
    have k0 := string_c G NB s (by omega) HB hB
    have k1 := hof_c G hG 9 [s] (all_lt1 (by omega)) (by simp)
    have k3 := hof_c G hG 1 [ofH 9 [s]] (all_lt1 (by rw [ofH_len]; omega)) (by simp)
    have hol := leafF_len vals
    rw [show ofH 1 [ofH 9 [s]] = leafF vals by rw [hs]; rfl] at k3
    simp only [List.map_cons, List.map_nil] at k1 k3
    have hql := ofH_len 9 [s]
    generalize leafF vals = f1 at *
    generalize ofH 9 [s] = q at *
    have hone := all_one_byte f1
    have hol2 : (f1.map pbyte).length = 16 := by rw [List.length_map, hol]
    have t3 : List.take 16 (f1.map pbyte) = f1.map pbyte := List.take_of_length_le (by omega)
    have hqo := all_one_byte q
    have hqb := isByte_pb q
    have hqu := unb_pb q
    have hq2 : (q.map pbyte).length = 16 := by rw [List.length_map, hql]
    have tq : List.take 16 (q.map pbyte) = q.map pbyte := List.take_of_length_le (by omega)
    repeat' (first
    | (with_reducible apply W_seq_k; intro nx hnx)
    | (with_reducible first | apply W_block | apply W_scope)
    | (with_reducible refine W_prune 253 ?_; simp only [prb, Nat.reducePow, Nat.reduceDiv, Nat.reduceMod, Nat.reduceBEq]; with_reducible apply W_region_l)
    | (with_reducible refine WL_born (by simp) rfl (by simp) ?_; simp only [elemsOf, nl, List.map_cons, List.map_nil, Nat.reduceEqDiff, ↓reduceIte, List.take_succ_cons, List.take_zero, List.range_succ, List.range_zero, List.nil_append, List.cons_append, List.map_append, List.drop_succ_cons, List.drop_zero, Nat.reduceMul, Nat.zero_mul, Nat.one_mul, Nat.reduceAdd])
    | (with_reducible refine WL_bornH (by simp) (by simp) ?_ ?_ ?_; (· simp [frz, frz1, hnm]); (· simp [frz1, hnm, PV.one, Value.oneCell']); simp only [elemsOf, nl, List.map_cons, List.map_nil, Nat.reduceEqDiff, ↓reduceIte, List.take_succ_cons, List.take_zero, List.range_succ, List.range_zero, List.nil_append, List.cons_append, List.map_append, List.drop_succ_cons, List.drop_zero, Nat.reduceMul, Nat.zero_mul, Nat.one_mul, Nat.reduceAdd])
    | ((first | (with_reducible apply WL_op; intro nx hnx) | with_reducible refine Ev_out ?_ | (with_reducible refine pfresh_k hnm fun nm hnm => ?_; (try simp only [fmb] at hnm)) | (with_reducible refine pborn_im ?_; simp only [elemsOf, nl, List.map_cons, List.map_nil, Nat.reduceEqDiff, ↓reduceIte, List.take_succ_cons, List.take_zero, List.range_succ, List.range_zero, List.nil_append, List.cons_append, List.map_append, List.drop_succ_cons, List.drop_zero, Nat.reduceMul, Nat.zero_mul, Nat.one_mul, Nat.reduceAdd])); try (simp (maxSteps := 2000000) (disch := omega) only [evb, evd, eve, constPV, seqK, blockK, scopeK, pbound, pelems, PV.mem?, PV.one, PV.cells, peqs, peq1, pkeys, List.set, Value.cells, ↓popG_eq, ↓pop.eq_1, ↓List.getElem?_map, ↓List.getElem?_cons_zero, ↓List.getElem?_cons_succ, Value.oneCell', Nat.reduceAdd, Nat.reduceMul, Nat.reduceSub, Nat.reduceLeDiff, Nat.reduceEqDiff, ↓reduceIte, ne_eq, reduceCtorEq, forall_const, exists_and_left, exists_eq_left', eq_self, Nat.reduceLT, Int.reduceLT, Int.reduceLE, Int.reduceToNat, Int.reduceAdd, Int.reduceSub, Int.reduceNeg, hnm, Tryd.tf0, Tryd.tf1, Tryd.tf3, Tryd.tf4, Tryd.tf5, Tryd.tf9, Tryd.tf23, Tryd.tf52, Tryd.tf54, Tryd.tf57, Tryd.tf66, Tryd.tf69, Tryd.call25, Tryd.call29, Tryd.call34, hone, hol2, t3, hqo, hqb, hqu, hq2, tq, hZl, hZd, hZo, hZ2]); repeat (refine And.intro (by omega) ?_))
    | ((with_reducible first | apply WL_nil | apply W_label | apply W_skip | apply W_exit | apply W_ret); try simp only [seqK, blockK, scopeK, ↓reduceIte, Nat.reduceEqDiff])
    | (with_reducible apply W_cond_k; intro _ _ ea eb; (simp only [condK, cob, opnd, constPV, Nat.reduceEqDiff, Nat.reduceLT, ↓reduceIte, hcb, reduceCtorEq, forall_const, ne_eq]); subst ea eb; first | (refine ⟨fun hc => ?_, fun hc => ?_⟩ <;> first | (exfalso; omega) | (exfalso; exact hc trivial) | skip) | skip)
    | (with_reducible apply hnx; clear hnx nx)
    | (with_reducible refine And.intro (by omega) ?_)
    | (with_reducible refine And.intro ?_ ?_)
    | (with_reducible refine pcall_k (k1) ?_; rintro _ _ ⟨rfl, rfl⟩ -; refine Ev_in ?_)
    | (with_reducible refine pcall_k (k3) ?_; rintro _ _ ⟨rfl, rfl⟩ -; refine Ev_in ?_)
    | ((refine pcall_midn [] HB [(NA, ⟨23, false, 0, Z⟩)] (by simp) k0 ?_; rintro _ _ ⟨rfl, rfl⟩ nd2; refine Ev_in ?_))
    | (clear hnx nx; with_reducible apply hnx; clear hnx nx)
    | (clear hnx nx; clear hnx nx; with_reducible apply hnx; clear hnx nx))
    all_goals first
      | exact rfl
      | (exfalso
         omega)
      | (refine hfin _ _ ?_
         exact Fin_dig (n := NA) (by simp only [fr_getD_cons, Nat.reduceEqDiff, Nat.reduceLT, ↓reduceIte]) (by simp [look, hnm]) hol ⟨rfl, rfl⟩)
end Go.PM

namespace Go.PM
open Go.RowKit
section
variable {P : Program} {G : Globs} {E : Amb} {A : Nat → Prop} {σ : PState} {a : Act} {w : World} {q : Bool}
/-- what comes back from a call to which the objects S were lent -/
theorem Sim.lentS {w' : World} {A' : Nat → Prop} {S : Nat → Prop} {F : List Int} (hs : Sim G E A σ a w) (hS : ∀ b : Nat, S b → ∃ o, ((b : Int), o) ∈ σ.heap)
    (hs' : Sim G ⟨w, fun b => A b ∨ S b, [], F⟩ A' ⟨[], []⟩ ⟨#[], []⟩ w') : Sim G E (fun b => A' b ∧ ¬ S b) σ a w' := by
  have he : Ext (fun _ => False) w w' := hs'.ext.mono (fun x hx => (List.not_mem_nil hx).elim)
  have hm : ∀ b, A b → ¬ False := fun _ _ h => h
  have hA : ∀ b, A b → A' b ∧ ¬ S b := fun b hb => ⟨hs'.a0 b (.inl hb), fun e => by
    obtain ⟨o, ho⟩ := hS b e
    exact (hs.own _ o ho b rfl).2.1 hb⟩
  have hA1 : ∀ b, A' b ∧ ¬ S b → A b ∨ w.heap.size ≤ b := by
    intro b ⟨hb, hn⟩
    rcases hs'.a1 b hb with (h | h) | h
    · exact .inl h
    · exact absurd h hn
    · exact .inr h
  refine ⟨hs.ext.trans he (fun _ _ h => h.elim), fun b hb => hs'.lt b hb.1, fun b hb => hA b (hs.a0 b hb), fun b hb => ?_, fun g => (hs.globs g).ext he hA hm, hs.nodup, fun m o' h => (hs.objs m o' h).ext he hA hm (fun _ _ h => h), fun m o' h b hb => ?_, hs.neg, hs.defers, hs.size, fun i p hp => ?_⟩
  · rcases hA1 b hb with h | h
    · exact hs.a1 b h
    · exact .inr (Nat.le_trans hs.ext.size h)
  · obtain ⟨q1, q2, q3⟩ := hs.own m o' h b hb
    refine ⟨Nat.lt_of_lt_of_le q1 he.size, fun hb' => ?_, q3⟩
    rcases hA1 b hb' with h | h
    · exact q2 h
    · omega
  · obtain ⟨v, hv, hr⟩ := hs.frame i p hp
    exact ⟨v, hv, hr.ext he hA hm⟩
/-- A call by contract to which the objects n and m are lent, to be read: what comes back names no memory. -/
theorem pcall_lend2 {fn : FuncId} {args : List PV} {R : PV → Heap → Prop} {d : Option Tmp} {K : PState → Prop} (n m : Int) (o u : PObj) (hl : look σ.heap n = some o) (hm : look σ.heap m = some u)
    (hc : PCalls P G fn (args.map fun p => frz m u.cells (frz n o.cells p)) [] R)
    (hk : ∀ res Hout, R res Hout → Hout = [] ∧ Flat res ∧ K (PState.put σ d res)) : @pcallI q P G σ d fn args ⟨K⟩ := by
  intro E A a w vals hs hsz hvals
  have hob := hs.objs n o (look_mem hl)
  have hob2 := hs.objs m u (look_mem hm)
  have hA1 : ∀ b, A b → (A b ∨ (b : Int) = n) := fun b h => .inl h
  have hn1 : ∀ b : Nat, n = b → (A b ∨ (b : Int) = n) := fun b h => .inr h.symm
  have hA2 : ∀ b, (A b ∨ (b : Int) = n) → (A b ∨ ((b : Int) = n ∨ (b : Int) = m)) := fun b h => by
    rcases h with h | h
    · exact .inl h
    · exact .inr (.inl h)
  have hn2 : ∀ b : Nat, m = b → (A b ∨ ((b : Int) = n ∨ (b : Int) = m)) := fun b h => .inr (.inr h.symm)
  have hob3 : ObjRep w (fun b => A b ∨ (b : Int) = n) m u := hob2.ext (M := fun _ => False) (Ext.refl _ _) hA1 (fun _ _ h => h) (fun _ _ h => h)
  refine (hc w (fun b => A b ∨ ((b : Int) = n ∨ (b : Int) = m)) (names σ.heap ++ E.F) vals ?_ (fun g => (hs.globs g).mono (fun b h => .inl h) (fun _ _ _ _ h => h) (fun _ _ h => h)) (by simp) (by simp) (by simp) (by rw [List.length_map]; exact hsz) ?_).mono ?_
  · intro b hb
    rcases hb with h | h | h
    · exact hs.lt b h
    · exact (hs.own n o (look_mem hl) b h.symm).1
    · exact (hs.own m u (look_mem hm) b h.symm).1
  · intro i p hp
    rw [List.getElem?_map] at hp
    cases hj : args[i]? with
    | none => rw [hj] at hp; cases hp
    | some p0 =>
      rw [hj] at hp
      cases hp
      obtain ⟨v, hv, hr⟩ := hvals i p0 hj
      exact ⟨v, hv, frz_rep hA2 hn2 hob3 (frz_rep hA1 hn1 hob hr)⟩
  · rintro e w' ⟨v, A', res, Hout, rfl, hR, hr, hs'⟩
    obtain ⟨rfl, hflat, hK⟩ := hk res Hout hR
    have hS : ∀ b : Nat, ((b : Int) = n ∨ (b : Int) = m) → ∃ o, ((b : Int), o) ∈ σ.heap := by
      rintro b (h | h)
      · exact ⟨o, h ▸ look_mem hl⟩
      · exact ⟨u, h ▸ look_mem hm⟩
    exact ⟨v, _, _, rfl, hK, (hs.lentS hS hs').put d (hflat.rep hr), fun _ => keeps_of_sim hs'⟩
end
end Go.PM

namespace Go.PM
open Go.RowKit
/-- The heap, one object turned no more, seen through closures too. -/
def frzD (n : Int) (cells : List PV) (H : Heap) : Heap := (del H n).map fun x => (x.1, { x.2 with cells := x.2.cells.map (frz n cells) })
/-- One object after the other is lent. -/
inductive Lend : List PV → Heap → List PV → Prop
  | done {args args' : List PV} (H : Heap) (h : args = args') : Lend args H args'
  | step {args args' : List PV} {H : Heap} (n : Int) (o : PObj) (hl : look H n = some o) (hone : ∀ x ∈ del H n, ∀ u ∈ x.2.cells, (frz n o.cells u).one = true)
      (h : Lend (args.map (frz n o.cells)) (frzD n o.cells H) args') : Lend args H args'
section
variable {P : Program} {G : Globs} {E : Amb} {A : Nat → Prop} {σ : PState} {a : Act} {w : World} {q : Bool}
theorem ObjRep.frz {n m : Int} {o u : PObj} {A' : Nat → Prop} (hA : ∀ b, A b → A' b) (hn : ∀ b : Nat, n = b → A' b) (ho : ObjRep w A n o) (h : ObjRep w A m u) (hone : ∀ x ∈ u.cells, (PM.frz n o.cells x).one = true) :
    ObjRep w A' m { u with cells := u.cells.map (PM.frz n o.cells) } := by
  rcases h with ⟨g1, g2, g3⟩ | ⟨b, cur, fz, f, rfl, q1, q2, q3, q4⟩ | ⟨b, es, clock, rfl, q1, q2, q3, q5, q6, q4⟩
  · exact .inl ⟨g1, g2, by simp [g3]⟩
  · refine .inr (.inl ⟨b, cur, fz, f, rfl, q1, q2, ⟨q3.1, fun k1 k2 => by simpa using q3.2 k1 k2⟩, fun j v hv => ?_⟩)
    simp only [List.getElem?_map] at hv
    cases hj : u.cells[j]? with
    | none => rw [hj] at hv; cases hv
    | some x =>
      rw [hj] at hv
      cases hv
      exact ⟨(q4 j x hj).1, hone x (List.mem_of_getElem? hj), frz_rep hA hn ho (q4 j x hj).2.2⟩
  · refine .inr (.inr ⟨b, es, clock, rfl, q1, q2, by simp [q3], q5, q6, fun j v hv => ?_⟩)
    simp only [List.getElem?_map] at hv
    cases hj : u.cells[j]? with
    | none => rw [hj] at hv; cases hv
    | some x =>
      rw [hj] at hv
      cases hv
      obtain ⟨e, k, v, r1, rfl, r2, r3⟩ := q4 j x hj
      exact ⟨e, k, v, r1, rfl, r2.mono hA (fun _ _ _ _ h => h) (fun _ _ h => h), r3.mono hA (fun _ _ _ _ h => h) (fun _ _ h => h)⟩
theorem del_mem {n : Int} : ∀ {H : Heap} {x : Int × PObj}, x ∈ del H n → x ∈ H
  | [], x, h => by simp [del] at h
  | y :: H, x, h => by
    obtain ⟨m, o⟩ := y
    simp only [del] at h
    split at h
    · exact .tail _ h
    · rcases List.mem_cons.1 h with h | h
      · exact h ▸ .head _
      · exact .tail _ (del_mem h)
theorem Lend.reps {args args' : List PV} {H : Heap} (h : Lend args H args') : ∀ {A : Nat → Prop} {vals : Array Value}, (∀ n o, (n, o) ∈ H → ObjRep w A n o) →
    (∀ (i : Nat) (p : PV), args[i]? = some p → ∃ v : Value, vals[i]? = some v ∧ Rep w A p v) →
    ∃ A' : Nat → Prop, (∀ b, A b → A' b) ∧ (∀ b, A' b → A b ∨ ∃ o, ((b : Int), o) ∈ H) ∧ args'.length = args.length ∧ ∀ (i : Nat) (p : PV), args'[i]? = some p → ∃ v : Value, vals[i]? = some v ∧ Rep w A' p v := by
  induction h with
  | done H h =>
    intro A vals _ hv
    subst h
    exact ⟨A, fun _ h => h, fun _ h => .inl h, rfl, hv⟩
  | step n o hl hone h ih =>
    rename_i args args' H
    intro A vals ho hv
    have hA : ∀ b, A b → (A b ∨ (b : Int) = n) := fun b h => .inl h
    have hn : ∀ b : Nat, n = b → (A b ∨ (b : Int) = n) := fun b h => .inr h.symm
    have hob := ho n o (look_mem hl)
    obtain ⟨A', a1, a2, a3, a4⟩ := ih (A := fun b => A b ∨ (b : Int) = n) (vals := vals) (by
      intro m u hm
      obtain ⟨⟨m1, u1⟩, h1, e⟩ := List.mem_map.1 hm
      cases e
      exact ObjRep.frz hA hn hob (ho m1 u1 (del_mem h1)) (hone _ h1)) (by
      intro i p hp
      rw [List.getElem?_map] at hp
      cases hj : args[i]? with
      | none => rw [hj] at hp; cases hp
      | some p0 =>
        rw [hj] at hp
        cases hp
        obtain ⟨v, hv1, hr⟩ := hv i p0 hj
        exact ⟨v, hv1, frz_rep hA hn hob hr⟩)
    refine ⟨A', fun b hb => a1 b (.inl hb), fun b hb => ?_, by rw [a3, List.length_map], a4⟩
    rcases a2 b hb with (h | h) | ⟨u, h⟩
    · exact .inl h
    · exact .inr ⟨o, h ▸ look_mem hl⟩
    · obtain ⟨⟨m1, u1⟩, h1, e⟩ := List.mem_map.1 h
      cases e
      exact .inr ⟨u1, del_mem h1⟩
/-- A call by contract to which objects are lent, to be read: what comes back names no memory. -/
theorem pcall_lendL {fn : FuncId} {args : List PV} (args' : List PV) {R : PV → Heap → Prop} {d : Option Tmp} {K : PState → Prop} (hL : Lend args σ.heap args') (hc : PCalls P G fn args' [] R)
    (hk : ∀ res Hout, R res Hout → Hout = [] ∧ Flat res ∧ K (PState.put σ d res)) : @pcallI q P G σ d fn args ⟨K⟩ := by
  intro E A a w vals hs hsz hvals
  obtain ⟨A1, a1, a2, a3, a4⟩ := hL.reps (w := w) (A := A) (vals := vals) hs.objs hvals
  refine (hc w A1 (names σ.heap ++ E.F) vals ?_ (fun g => (hs.globs g).mono a1 (fun _ _ _ _ h => h) (fun _ _ h => h)) (by simp) (by simp) (by simp) (by rw [a3]; exact hsz) a4).mono ?_
  · intro b hb
    rcases a2 b hb with h | ⟨o, h⟩
    · exact hs.lt b h
    · exact (hs.own _ o h b rfl).1
  · rintro e w' ⟨v, A', res, Hout, rfl, hR, hr, hs'⟩
    obtain ⟨rfl, hflat, hK⟩ := hk res Hout hR
    have he : Ext (fun _ => False) w w' := hs'.ext.mono (fun x hx => (List.not_mem_nil hx).elim)
    have hm : ∀ b, A b → ¬ False := fun _ _ h => h
    have hsim : Sim G E A σ a w' := by
      refine ⟨hs.ext.trans he (fun _ _ h => h.elim), fun b hb => Nat.lt_of_lt_of_le (hs.lt b hb) he.size, hs.a0, hs.a1, fun g => (hs.globs g).ext he (fun _ h => h) hm, hs.nodup, fun m o' h => (hs.objs m o' h).ext he (fun _ h => h) hm (fun _ _ h => h), fun m o' h b hb => ?_, hs.neg, hs.defers, hs.size, fun i p hp => ?_⟩
      · obtain ⟨q1, q2, q3⟩ := hs.own m o' h b hb
        exact ⟨Nat.lt_of_lt_of_le q1 he.size, q2, q3⟩
      · obtain ⟨v, hv, hr⟩ := hs.frame i p hp
        exact ⟨v, hv, hr.ext he (fun _ h => h) hm⟩
    exact ⟨v, _, A, rfl, hK, hsim.put d (hflat.rep hr), fun _ => keeps_of_sim hs'⟩
end
end Go.PM

namespace Go.PM
theorem peqs_bytes : ∀ (n : Nat) (d e : List UInt8), d.length = n → e.length = n → peqs (List.replicate n (.int .u8)) (d.map pbyte) (e.map pbyte) = some (decide (d = e))
  | 0, [], [], _, _ => by simp [peqs]
  | n + 1, a :: d, b :: e, h1, h2 => by
    have ih := peqs_bytes n d e (by simpa using h1) (by simpa using h2)
    simp only [List.replicate_succ, List.map_cons, peqs, ih, peq1, if_true]
    congr 1
    have : ((a.toNat : Int) == (b.toNat : Int)) = decide (a = b) := by
      rw [Bool.eq_iff_iff]
      simp only [beq_iff_eq, decide_eq_true_eq]
      exact ⟨fun h => UInt8.toNat_inj.1 (Int.ofNat_inj.1 h), fun h => by rw [h]⟩
    rw [this]
    simp
theorem q16 (a b : List UInt8) (h1 : a.length = 16) (h2 : b.length = 16) : peqs [.int .u8, .int .u8, .int .u8, .int .u8, .int .u8, .int .u8, .int .u8, .int .u8, .int .u8, .int .u8, .int .u8, .int .u8, .int .u8, .int .u8, .int .u8, .int .u8] (a.map pbyte) (b.map pbyte) = some (decide (a = b)) := peqs_bytes 16 a b h1 h2
end Go.PM

namespace Go.PM
open Go.Proofs
attribute [local irreducible] W PCalls pcall pcallI WL
/-- The node with a number at a level. -/
def nodeV (seed : List UInt8) : Nat → Nat → List UInt8
  | 0, k => leafF (topF seed k)
  | l + 1, k => nodeF (nodeV seed l (2 * k)) (nodeV seed l (2 * k + 1))
theorem nodeF_len (a b : List UInt8) : (nodeF a b).length = 16 := ofH_len _ _
theorem nodeV_len (seed : List UInt8) : ∀ l k, (nodeV seed l k).length = 16
  | 0, k => leafF_len _
  | l + 1, k => nodeF_len _ _
/-- A digest. -/
@[reducible] def pdg (x : List UInt8) : PV := .agg (x.map pbyte)
def catD (l : List (List UInt8)) : List PV := l.flatten.map pbyte
theorem catD_len : ∀ (l : List (List UInt8)), (∀ d ∈ l, d.length = 16) → (catD l).length = l.length * 16
  | [], _ => by simp [catD]
  | d :: l, h => by
    have ih := catD_len l fun x hx => h x (.tail _ hx)
    have hd := h d (.head _)
    simp only [catD, List.length_map, List.flatten_cons, List.length_append, List.length_cons] at ih ⊢
    omega
theorem elems_dig : ∀ (l : List (List UInt8)), (∀ d ∈ l, d.length = 16) → elemsOf 16 (catD l) l.length = l.map pdg
  | [], _ => by simp [elemsOf]
  | d :: l, h => by
    have ih := elems_dig l fun x hx => h x (.tail _ hx)
    have hd := h d (.head _)
    rw [elemsOf, if_neg (by omega)] at ih ⊢
    have e : catD (d :: l) = d.map pbyte ++ catD l := by simp [catD]
    rw [List.length_cons, List.range_succ_eq_map, List.map_cons, List.map_map, List.map_cons]
    congr 1
    · rw [e, Nat.zero_mul, List.drop_zero, List.take_append_of_le_length (by simp [hd]), List.take_of_length_le (by simp [hd])]
    · rw [← ih]
      refine List.map_congr_left fun i _ => ?_
      simp only [Function.comp_apply]
      rw [e, show (i + 1) * 16 = 16 + i * 16 by omega, ← List.drop_drop, List.drop_left' (by simp [hd])]
/-- The first nodes of a level. -/
def lvD (seed : List UInt8) (l n : Nat) : List (List UInt8) := (List.range n).map (nodeV seed l)
theorem lvD_len (seed : List UInt8) (l n : Nat) : (lvD seed l n).length = n := by simp [lvD]
theorem lvD_succ (seed : List UInt8) (l n : Nat) : lvD seed l (n + 1) = lvD seed l n ++ [nodeV seed l n] := by
  simp [lvD, List.range_succ]
theorem lvD_all (seed : List UInt8) (l n : Nat) : ∀ d ∈ lvD seed l n, d.length = 16 := by
  intro d hd
  obtain ⟨k, _, rfl⟩ := List.mem_map.1 hd
  exact nodeV_len _ _ _
theorem lvD_get (seed : List UInt8) (l n k : Nat) (h : k < n) : (lvD seed l n)[k]? = some (nodeV seed l k) := by
  simp [lvD, h]
/-- The cells of a level. -/
def lvC (seed : List UInt8) (l n : Nat) : List PV := catD (lvD seed l n)
theorem lvC_len (seed : List UInt8) (l n : Nat) : (lvC seed l n).length = n * 16 := by
  rw [lvC, catD_len _ (lvD_all seed l n), lvD_len]
theorem lvC_zero (seed : List UInt8) (l : Nat) : lvC seed l 0 = [] := rfl
theorem lvC_succ (seed : List UInt8) (l n : Nat) : lvC seed l (n + 1) = lvC seed l n ++ (nodeV seed l n).map pbyte := by
  simp [lvC, catD, lvD_succ]
theorem lvC_elems (seed : List UInt8) (l n : Nat) : elemsOf 16 (lvC seed l n) n = (lvD seed l n).map pdg := by
  have := elems_dig (lvD seed l n) (lvD_all seed l n)
  rwa [lvD_len] at this
/-- The levels of a tree, in part. -/
def tbC (seed : List UInt8) (h n : Nat) : List PV := (List.range n).map fun j => .list 16 ((lvD seed j (2 ^ (h - j))).map pdg)
theorem tbC_len (seed : List UInt8) (h n : Nat) : (tbC seed h n).length = n := by simp [tbC]
theorem tbC_succ (seed : List UInt8) (h n : Nat) : tbC seed h (n + 1) = tbC seed h n ++ [.list 16 ((lvD seed n (2 ^ (h - n))).map pdg)] := by
  simp [tbC, List.range_succ]
theorem tbC_get (seed : List UInt8) (h n j : Nat) (hj : j < n) : (tbC seed h n)[j]? = some (.list 16 ((lvD seed j (2 ^ (h - j))).map pdg)) := by
  simp [tbC, hj]
theorem tbC_one (seed : List UInt8) (h : Nat) : tbC seed h 1 = [.list 16 ((lvD seed 0 (2 ^ h)).map pdg)] := rfl
theorem tbC_mem {seed : List UInt8} {h n : Nat} {u : PV} (hu : u ∈ tbC seed h n) : ∃ xs, u = .list 16 xs := by
  obtain ⟨j, _, rfl⟩ := List.mem_map.1 hu
  exact ⟨_, rfl⟩
theorem tbC_frz (seed : List UInt8) (h n : Nat) (m : Int) (cs : List PV) : (tbC seed h n).map (frz1 m cs) = tbC seed h n := by
  conv => rhs; rw [← List.map_id (tbC seed h n)]
  refine List.map_congr_left fun u hu => ?_
  obtain ⟨xs, rfl⟩ := tbC_mem hu
  rfl
attribute [local irreducible] lvC lvD tbC
theorem shl_op : ∀ h : _root_.Fin 7, IntKind.i64.wrap (1 * 2 ^ min h.val IntKind.i64.bits) = ((2 ^ h.val : Nat) : Int) := by decide +kernel
theorem pow_le64 (h : Nat) (hh : h ≤ 6) : 2 ^ h ≤ 64 := by
  have := Nat.pow_le_pow_right (n := 2) (by omega) hh
  exact this
set_option maxRecDepth 100000 in
set_option maxHeartbeats 8000000 in
theorem levels_r (G : Globs) (hG : G 0 = .iptr (KS.map pw) 0) (seed : List UInt8) (hs : seed.length ≤ 4000) (h : Nat) (hh : h ≤ 6) :
    PCalls Tryd.prog G 24 [pstr seed, pint .i64 h] [] (fun res H => ∃ T, res = .row T 1 (h + 1) ∧ H = [(T, ⟨48, true, 1, tbC seed h (h + 1)⟩)]) := by
  have hsh := shl_op ⟨h, by omega⟩
  simp only at hsh
  obtain ⟨w, hw⟩ : ∃ w, w = 2 ^ h := ⟨_, rfl⟩
  have hw64 := pow_le64 h hh
  rw [← hw] at hsh hw64
  (refine PCalls_f Tryd.func24 rfl Tryd.ntmps24 Tryd.results24 (by simp) fun fin hfin => ?_; have hnm : True := trivial; simp (maxSteps := 2000000) (disch := omega) only [evb, evd, eve, constPV, seqK, blockK, scopeK, pbound, pelems, PV.mem?, PV.one, PV.cells, peqs, peq1, pkeys, List.set, Value.cells, ↓popG_eq, ↓pop.eq_1, ↓List.getElem?_map, ↓List.getElem?_cons_zero, ↓List.getElem?_cons_succ, Value.oneCell', Nat.reduceAdd, Nat.reduceMul, Nat.reduceSub, Nat.reduceLeDiff, Nat.reduceEqDiff, ↓reduceIte, ne_eq, reduceCtorEq, forall_const, exists_and_left, exists_eq_left', eq_self, Nat.reduceLT, Int.reduceLT, Int.reduceLE, Int.reduceToNat, Int.reduceAdd, Int.reduceSub, Int.reduceNeg, hnm, Tryd.tf0, Tryd.tf1, Tryd.tf3, Tryd.tf4, Tryd.tf5, Tryd.tf9, Tryd.tf23, Tryd.tf48, Tryd.tf49, Tryd.call43, Tryd.call46])
  repeat' (first
    | (with_reducible apply W_seq_k; intro nx hnx)
    | (with_reducible first | apply W_block | apply W_scope)
    | (with_reducible refine W_prune 2035 ?_; simp only [prb, Nat.reducePow, Nat.reduceDiv, Nat.reduceMod, Nat.reduceBEq]; first | (with_reducible apply W_region_l) | with_reducible refine W_region_draw (id := 14) 5 (.op 0 true (.op 1 true (.op 2 true (.op 3 true (.op 4 true (.op 5 true (.op 6 true (.op 7 true (.op 8 true (.op 9 true (.op 10 true (.op 11 true (.op 12 true (.op 13 true (.op 14 true (.op 15 true (.op 16 false (.op 17 false (.op 18 false (.op 19 true (.done))))))))))))))))))))) (by kernel_rfl) ?_)
    | ((first | (with_reducible apply WL_op; intro nx hnx) | with_reducible refine Ev_out ?_ | (with_reducible apply popsD_op; intro nx hnx) | (with_reducible refine popsD_alt ?_ ?_; intro nx hnx) | (with_reducible refine pfresh_k hnm fun nm hnm => ?_; (try simp only [fmb] at hnm)) | (with_reducible refine pborn_mu hnm fun nm hnm => ?_; (try simp only [fmb] at hnm))); try (simp (maxSteps := 2000000) (disch := omega) only [evb, evd, eve, constPV, seqK, blockK, scopeK, pbound, pelems, PV.mem?, PV.one, PV.cells, peqs, peq1, pkeys, List.set, Value.cells, ↓popG_eq, ↓pop.eq_1, ↓List.getElem?_map, ↓List.getElem?_cons_zero, ↓List.getElem?_cons_succ, Value.oneCell', Nat.reduceAdd, Nat.reduceMul, Nat.reduceSub, Nat.reduceLeDiff, Nat.reduceEqDiff, ↓reduceIte, ne_eq, reduceCtorEq, forall_const, exists_and_left, exists_eq_left', eq_self, Nat.reduceLT, Int.reduceLT, Int.reduceLE, Int.reduceToNat, Int.reduceAdd, Int.reduceSub, Int.reduceNeg, hnm, Tryd.tf0, Tryd.tf1, Tryd.tf3, Tryd.tf4, Tryd.tf5, Tryd.tf9, Tryd.tf23, Tryd.tf48, Tryd.tf49, Tryd.call43, Tryd.call46]); repeat (refine And.intro (by omega) ?_))
    | ((with_reducible first | apply WL_nil | apply W_label | apply W_skip | apply W_exit | apply W_ret | apply popsD_done); try simp only [seqK, blockK, scopeK, ↓reduceIte, Nat.reduceEqDiff])
    | with_reducible exact popsD_stop
    | (with_reducible apply W_cond_k; intro _ _ ea eb; (simp only [condK, cob, opnd, constPV, Nat.reduceEqDiff, Nat.reduceLT, ↓reduceIte, hcb, reduceCtorEq, forall_const, ne_eq]); subst ea eb; first | (refine ⟨fun hc => ?_, fun hc => ?_⟩ <;> first | (exfalso; omega) | (exfalso; exact hc trivial) | skip) | skip)
    | (with_reducible apply hnx; clear hnx nx)
    | (with_reducible refine And.intro (by omega) ?_)
    | (with_reducible refine And.intro ?_ ?_)
    | (clear hnx nx; with_reducible apply hnx; clear hnx nx)
    | (clear hnx nx; clear hnx nx; with_reducible apply hnx; clear hnx nx))
  refine W_adopt_f 5 23 16 (by simp only [fr_getD_cons, Nat.reduceEqDiff, Nat.reduceLT, ↓reduceIte]) fun D0 hD0 => ?_
  refine W_loop_k (fun z τ => ∃ (i : Nat) (N : Int), i ≤ w ∧ z = w - i ∧
      τ = ⟨fr 64 [(5, .row N 16 i), (6, pint .i64 i), (0, pstr seed), (1, pint .i64 h)], [(N, ⟨23, true, 16, lvC seed 0 i⟩)]⟩) w
    ⟨fr 64 [(5, .row D0 16 0), (6, pint .i64 (0 : Nat)), (0, pstr seed), (1, pint .i64 h)], [(D0, ⟨23, true, 16, []⟩)]⟩ (by
    refine Wk_fr (by simp only [wkb, Nat.reduceEqDiff, Nat.reduceLT, ↓reduceIte]) ?_
    exact Sub_refl (by simp [names])) ⟨0, D0, by omega, by omega, by rw [lvC_zero]⟩ ?_
  rintro z τ ⟨i, N, hi, rfl, rfl⟩ lp hlp
  by_cases hlt : i < w
  · have c1 := rleaf_c G hG seed hs i ⟨by omega, by omega⟩
    rw [show leafF (topF seed (i : Int)) = nodeV seed 0 i from rfl] at c1
    have hvl := nodeV_len seed 0 i
    have hsu := lvC_succ seed 0 i
    have hpl := lvC_len seed 0 i
    generalize nodeV seed 0 i = v at *
    have ho := all_one_byte v
    have hl2 : (v.map pbyte).length = 16 := by rw [List.length_map, hvl]
    have tv : List.take 16 (v.map pbyte) = v.map pbyte := List.take_of_length_le (by omega)
    repeat' (first
    | (with_reducible apply W_seq_k; intro nx hnx)
    | (with_reducible first | apply W_block | apply W_scope)
    | (with_reducible refine W_prune 2035 ?_; simp only [prb, Nat.reducePow, Nat.reduceDiv, Nat.reduceMod, Nat.reduceBEq]; first | (with_reducible apply W_region_l) | with_reducible refine W_region_draw (id := 14) 5 (.op 0 true (.op 1 true (.op 2 true (.op 3 true (.op 4 true (.op 5 true (.op 6 true (.op 7 true (.op 8 true (.op 9 true (.op 10 true (.op 11 true (.op 12 true (.op 13 true (.op 14 true (.op 15 true (.op 16 false (.op 17 false (.op 18 false (.op 19 true (.done))))))))))))))))))))) (by kernel_rfl) ?_)
    | ((first | (with_reducible apply WL_op; intro nx hnx) | with_reducible refine Ev_out ?_ | (with_reducible apply popsD_op; intro nx hnx) | (with_reducible refine popsD_alt ?_ ?_; intro nx hnx) | (with_reducible refine pfresh_k hnm fun nm hnm => ?_; (try simp only [fmb] at hnm)) | (with_reducible refine pborn_mu hnm fun nm hnm => ?_; (try simp only [fmb] at hnm))); try (simp (maxSteps := 2000000) (disch := omega) only [evb, evd, eve, constPV, seqK, blockK, scopeK, pbound, pelems, PV.mem?, PV.one, PV.cells, peqs, peq1, pkeys, List.set, Value.cells, ↓popG_eq, ↓pop.eq_1, ↓List.getElem?_map, ↓List.getElem?_cons_zero, ↓List.getElem?_cons_succ, Value.oneCell', Nat.reduceAdd, Nat.reduceMul, Nat.reduceSub, Nat.reduceLeDiff, Nat.reduceEqDiff, ↓reduceIte, ne_eq, reduceCtorEq, forall_const, exists_and_left, exists_eq_left', eq_self, Nat.reduceLT, Int.reduceLT, Int.reduceLE, Int.reduceToNat, Int.reduceAdd, Int.reduceSub, Int.reduceNeg, hnm, Tryd.tf0, Tryd.tf1, Tryd.tf3, Tryd.tf4, Tryd.tf5, Tryd.tf9, Tryd.tf23, Tryd.tf48, Tryd.tf49, Tryd.call43, Tryd.call46, hsh, ho, hl2, tv, hpl]); repeat (refine And.intro (by omega) ?_))
    | ((with_reducible first | apply WL_nil | apply W_label | apply W_skip | apply W_exit | apply W_ret | apply popsD_done); try simp only [seqK, blockK, scopeK, ↓reduceIte, Nat.reduceEqDiff])
    | with_reducible exact popsD_stop
    | (with_reducible apply W_cond_k; intro _ _ ea eb; (simp only [condK, cob, opnd, constPV, Nat.reduceEqDiff, Nat.reduceLT, ↓reduceIte, hcb, reduceCtorEq, forall_const, ne_eq]); subst ea eb; first | (refine ⟨fun hc => ?_, fun hc => ?_⟩ <;> first | (exfalso; omega) | (exfalso; exact hc trivial) | skip) | skip)
    | (with_reducible apply hnx; clear hnx nx)
    | (with_reducible refine And.intro (by omega) ?_)
    | (with_reducible refine And.intro ?_ ?_)
    | (with_reducible refine pcall_k (c1) ?_; rintro _ _ ⟨rfl, rfl⟩ -; refine Ev_in ?_)
    | (clear hnx nx; with_reducible apply hnx; clear hnx nx)
    | (clear hnx nx; clear hnx nx; with_reducible apply hnx; clear hnx nx))
    all_goals first
      | exact rfl
      | (exfalso
         omega)
      | (refine hlp _ (w - (i + 1)) _ (by omega) ?_ ⟨i + 1, nm, by omega, rfl, rfl⟩
         rw [hsu]
         refine Wk_fr (by simp only [wkb, Nat.reduceEqDiff, Nat.reduceLT, ↓reduceIte]) ?_
         exact ⟨by simp, by simp [names, hnm]⟩)
  · obtain rfl : i = w := by omega
    have hpl := lvC_len seed 0 i
    have hel := lvC_elems seed 0 i
    have hll := lvD_len seed 0 i
    repeat' (first
    | (with_reducible apply W_seq_k; intro nx hnx)
    | (with_reducible first | apply W_block | apply W_scope)
    | (with_reducible refine W_prune 2035 ?_; simp only [prb, Nat.reducePow, Nat.reduceDiv, Nat.reduceMod, Nat.reduceBEq]; first | (with_reducible apply W_region_l) | with_reducible refine W_region_draw (id := 14) 5 (.op 0 true (.op 1 true (.op 2 true (.op 3 true (.op 4 true (.op 5 true (.op 6 true (.op 7 true (.op 8 true (.op 9 true (.op 10 true (.op 11 true (.op 12 true (.op 13 true (.op 14 true (.op 15 true (.op 16 false (.op 17 false (.op 18 false (.op 19 true (.done))))))))))))))))))))) (by kernel_rfl) ?_)
    | ((first | (with_reducible apply WL_op; intro nx hnx) | with_reducible refine Ev_out ?_ | (with_reducible apply popsD_op; intro nx hnx) | (with_reducible refine popsD_alt ?_ ?_; intro nx hnx) | (with_reducible refine pfresh_k hnm fun nm hnm => ?_; (try simp only [fmb] at hnm)) | (with_reducible refine pborn_mu hnm fun nm hnm => ?_; (try simp only [fmb] at hnm))); try (simp (maxSteps := 2000000) (disch := omega) only [evb, evd, eve, constPV, seqK, blockK, scopeK, pbound, pelems, PV.mem?, PV.one, PV.cells, peqs, peq1, pkeys, List.set, Value.cells, ↓popG_eq, ↓pop.eq_1, ↓List.getElem?_map, ↓List.getElem?_cons_zero, ↓List.getElem?_cons_succ, Value.oneCell', Nat.reduceAdd, Nat.reduceMul, Nat.reduceSub, Nat.reduceLeDiff, Nat.reduceEqDiff, ↓reduceIte, ne_eq, reduceCtorEq, forall_const, exists_and_left, exists_eq_left', eq_self, Nat.reduceLT, Int.reduceLT, Int.reduceLE, Int.reduceToNat, Int.reduceAdd, Int.reduceSub, Int.reduceNeg, hnm, Tryd.tf0, Tryd.tf1, Tryd.tf3, Tryd.tf4, Tryd.tf5, Tryd.tf9, Tryd.tf23, Tryd.tf48, Tryd.tf49, Tryd.call43, Tryd.call46, hsh]); repeat (refine And.intro (by omega) ?_))
    | ((with_reducible first | apply WL_nil | apply W_label | apply W_skip | apply W_exit | apply W_ret | apply popsD_done); try simp only [seqK, blockK, scopeK, ↓reduceIte, Nat.reduceEqDiff])
    | with_reducible exact popsD_stop
    | (with_reducible apply W_cond_k; intro _ _ ea eb; (simp only [condK, cob, opnd, constPV, Nat.reduceEqDiff, Nat.reduceLT, ↓reduceIte, hcb, reduceCtorEq, forall_const, ne_eq]); subst ea eb; first | (refine ⟨fun hc => ?_, fun hc => ?_⟩ <;> first | (exfalso; omega) | (exfalso; exact hc trivial) | skip) | skip)
    | (with_reducible apply hnx; clear hnx nx)
    | (with_reducible refine And.intro (by omega) ?_)
    | (with_reducible refine And.intro ?_ ?_)
    | (clear hnx nx; with_reducible apply hnx; clear hnx nx)
    | (clear hnx nx; clear hnx nx; with_reducible apply hnx; clear hnx nx))
    all_goals first
      | (exfalso
         omega)
      | skip
    obtain ⟨T, hT⟩ : ∃ T, T = nm := ⟨_, rfl⟩
    subst hT
    have hTN : ¬ T = N := by simp [hnm]
    have hNT : ¬ N = T := fun e => hTN e.symm
    refine W_x (τ := ⟨fr 64 [(8, pint .i64 (0 : Nat)), (7, .row T 1 1), (5, .list 16 ((lvD seed 0 i).map pdg)), (6, pint .i64 i), (0, pstr seed), (1, pint .i64 h)], [(T, ⟨48, true, 1, [.list 16 ((lvD seed 0 i).map pdg)]⟩)]⟩) (by
      have hf := Wx.freeze_f (G := G) (I := []) (N := 64) (l := [(8, pint .i64 (0 : Nat)), (7, .row T 1 1), (5, .row N 16 i), (6, pint .i64 i), (0, pstr seed), (1, pint .i64 h)]) (H := [(T, ⟨48, true, 1, [.row N 16 i]⟩), (N, ⟨23, true, 16, lvC seed 0 i⟩)]) N (o := ⟨23, true, 16, lvC seed 0 i⟩) (by simp) (by simp [look, hTN]) (by
        simp [frzOk, del, frz1, hTN, hpl, PV.one])
      simpa [PM.frz, frz1, frzH, del, hpl, hel, hTN, hNT] using hf) ?_
    have ht1 : tbC seed h 1 = [.list 16 ((lvD seed 0 i).map pdg)] := by rw [hw]; exact tbC_one seed h
    rw [← ht1]
    clear hnm
    refine W_loop_k (fun z τ => ∃ (l : Nat) (T : Int), l ≤ h ∧ z = h - l ∧
        τ = ⟨fr 64 [(8, pint .i64 l), (7, .row T 1 (l + 1)), (1, pint .i64 h)], [(T, ⟨48, true, 1, tbC seed h (l + 1)⟩)]⟩) h
      ⟨fr 64 [(8, pint .i64 (0 : Nat)), (7, .row T 1 1), (1, pint .i64 h)], [(T, ⟨48, true, 1, tbC seed h 1⟩)]⟩ (by
      refine Wk_fr (by simp only [wkb, Nat.reduceEqDiff, Nat.reduceLT, ↓reduceIte]) ?_
      exact Sub_refl (by simp [names])) ⟨0, T, by omega, by omega, rfl⟩ ?_
    clear lp hlp
    rintro z τ ⟨l, T', hl, rfl, rfl⟩ lp hlp
    have htl := tbC_len seed h (l + 1)
    by_cases hlh : l < h
    · obtain ⟨V, hV⟩ : ∃ V, V = 2 ^ (h - (l + 1)) := ⟨_, rfl⟩
      have hVw : 2 ^ (h - l) = 2 * V := by rw [hV, show h - l = (h - (l + 1)) + 1 by omega, Nat.pow_succ, Nat.mul_comm]
      have hV64 : V ≤ 64 := by rw [hV]; exact pow_le64 _ (by omega)
      have hgl := tbC_get seed h (l + 1) l (by omega)
      rw [hVw] at hgl
      have hLl : ((lvD seed l (2 * V)).map pdg).length = 2 * V := by rw [List.length_map, lvD_len]
      repeat' (first
    | (with_reducible apply W_seq_k; intro nx hnx)
    | (with_reducible first | apply W_block | apply W_scope)
    | (with_reducible refine W_prune 2035 ?_; simp only [prb, Nat.reducePow, Nat.reduceDiv, Nat.reduceMod, Nat.reduceBEq]; first | (with_reducible apply W_region_l) | with_reducible refine W_region_draw (id := 14) 5 (.op 0 true (.op 1 true (.op 2 true (.op 3 true (.op 4 true (.op 5 true (.op 6 true (.op 7 true (.op 8 true (.op 9 true (.op 10 true (.op 11 true (.op 12 true (.op 13 true (.op 14 true (.op 15 true (.op 16 false (.op 17 false (.op 18 false (.op 19 true (.done))))))))))))))))))))) (by kernel_rfl) ?_)
    | ((first | (with_reducible apply WL_op; intro nx hnx) | with_reducible refine Ev_out ?_ | (with_reducible apply popsD_op; intro nx hnx) | (with_reducible refine popsD_alt ?_ ?_; intro nx hnx) | (with_reducible refine pfresh_k hnm fun nm hnm => ?_; (try simp only [fmb] at hnm)) | (with_reducible refine pborn_mu hnm fun nm hnm => ?_; (try simp only [fmb] at hnm))); try (simp (maxSteps := 2000000) (disch := omega) only [evb, evd, eve, constPV, seqK, blockK, scopeK, pbound, pelems, PV.mem?, PV.one, PV.cells, peqs, peq1, pkeys, List.set, Value.cells, ↓popG_eq, ↓pop.eq_1, ↓List.getElem?_map, ↓List.getElem?_cons_zero, ↓List.getElem?_cons_succ, Value.oneCell', Nat.reduceAdd, Nat.reduceMul, Nat.reduceSub, Nat.reduceLeDiff, Nat.reduceEqDiff, ↓reduceIte, ne_eq, reduceCtorEq, forall_const, exists_and_left, exists_eq_left', eq_self, Nat.reduceLT, Int.reduceLT, Int.reduceLE, Int.reduceToNat, Int.reduceAdd, Int.reduceSub, Int.reduceNeg, hnm, Tryd.tf0, Tryd.tf1, Tryd.tf3, Tryd.tf4, Tryd.tf5, Tryd.tf9, Tryd.tf23, Tryd.tf48, Tryd.tf49, Tryd.call43, Tryd.call46, hlh]); repeat (refine And.intro (by omega) ?_))
    | ((with_reducible first | apply WL_nil | apply W_label | apply W_skip | apply W_exit | apply W_ret | apply popsD_done); try simp only [seqK, blockK, scopeK, ↓reduceIte, Nat.reduceEqDiff])
    | with_reducible exact popsD_stop
    | (with_reducible apply W_cond_k; intro _ _ ea eb; (simp only [condK, cob, opnd, constPV, Nat.reduceEqDiff, Nat.reduceLT, ↓reduceIte, hcb, reduceCtorEq, forall_const, ne_eq]); subst ea eb; first | (refine ⟨fun hc => ?_, fun hc => ?_⟩ <;> first | (exfalso; omega) | (exfalso; exact hc trivial) | skip) | skip)
    | (with_reducible apply hnx; clear hnx nx)
    | (with_reducible refine And.intro (by omega) ?_)
    | (with_reducible refine And.intro ?_ ?_)
    | (clear hnx nx; with_reducible apply hnx; clear hnx nx)
    | (clear hnx nx; clear hnx nx; with_reducible apply hnx; clear hnx nx))
      all_goals first
        | (exfalso
           omega)
        | skip
      refine W_adopt_f 9 23 16 (by simp only [fr_getD_cons, Nat.reduceEqDiff, Nat.reduceLT, ↓reduceIte]) fun D1 hD1 => ?_
      have hD1T : ¬ D1 = T' := by simpa [names] using hD1
      refine W_loop_k (fun z τ => ∃ (m : Nat) (M : Int), m ≤ V ∧ z = V - m ∧ ¬ M = T' ∧
          τ = ⟨fr 64 [(9, .row M 16 m), (10, pint .i64 (2 * m : Nat)), (8, pint .i64 l), (7, .row T' 1 (l + 1)), (1, pint .i64 h)], [(M, ⟨23, true, 16, lvC seed (l + 1) m⟩), (T', ⟨48, true, 1, tbC seed h (l + 1)⟩)]⟩) V
        ⟨fr 64 [(9, .row D1 16 0), (10, pint .i64 (0 : Nat)), (8, pint .i64 l), (7, .row T' 1 (l + 1)), (1, pint .i64 h)], [(D1, ⟨23, true, 16, []⟩), (T', ⟨48, true, 1, tbC seed h (l + 1)⟩)]⟩ (by
        refine Wk_fr (by simp only [wkb, Nat.reduceEqDiff, Nat.reduceLT, ↓reduceIte]) ?_
        exact Sub_refl (by simp [names, hD1T])) ⟨0, D1, by omega, by omega, hD1T, by rw [lvC_zero]⟩ ?_
      rintro z τ ⟨m, M, hm, rfl, hMT, rfl⟩ lp2 hlp2
      have hnm : ¬ M = T' ∧ ¬ T' = M := ⟨hMT, fun e => hMT e.symm⟩
      have hcl := lvC_len seed (l + 1) m
      by_cases hmV : m < V
      · have g1 : ((lvD seed l (2 * V)).map pdg)[2 * m]? = some (pdg (nodeV seed l (2 * m))) := by
          rw [List.getElem?_map, lvD_get _ _ _ _ (by omega)]
          rfl
        have g2 : ((lvD seed l (2 * V)).map pdg)[2 * m + 1]? = some (pdg (nodeV seed l (2 * m + 1))) := by
          rw [List.getElem?_map, lvD_get _ _ _ _ (by omega)]
          rfl
        have c1 := rnode_c G hG (nodeV seed l (2 * m)) (nodeV seed l (2 * m + 1)) (nodeV_len _ _ _) (nodeV_len _ _ _)
        rw [show nodeF (nodeV seed l (2 * m)) (nodeV seed l (2 * m + 1)) = nodeV seed (l + 1) m from rfl] at c1
        have lx := nodeV_len seed l (2 * m)
        have ly := nodeV_len seed l (2 * m + 1)
        have g3 : ((lvD seed l (2 * V)).map pdg).getD (2 * m) PV.junk = .agg ((nodeV seed l (2 * m)).map pbyte) := by rw [List.getD_eq_getElem?_getD, g1]; rfl
        have g4 : ((lvD seed l (2 * V)).map pdg).getD (2 * m + 1) PV.junk = .agg ((nodeV seed l (2 * m + 1)).map pbyte) := by rw [List.getD_eq_getElem?_getD, g2]; rfl
        generalize nodeV seed l (2 * m + 1) = y at *
        generalize nodeV seed l (2 * m) = x at *
        have lx2 : (x.map pbyte).length = 16 := by rw [List.length_map, lx]
        have ly2 : (y.map pbyte).length = 16 := by rw [List.length_map, ly]
        have tx : List.take 16 (x.map pbyte) = x.map pbyte := List.take_of_length_le (by omega)
        have ty : List.take 16 (y.map pbyte) = y.map pbyte := List.take_of_length_le (by omega)
        have hsu := lvC_succ seed (l + 1) m
        have hvl := nodeV_len seed (l + 1) m
        generalize nodeV seed (l + 1) m = v at *
        have ho := all_one_byte v
        have hl2 : (v.map pbyte).length = 16 := by rw [List.length_map, hvl]
        have tv : List.take 16 (v.map pbyte) = v.map pbyte := List.take_of_length_le (by omega)
        repeat' (first
    | (with_reducible apply W_seq_k; intro nx hnx)
    | (with_reducible first | apply W_block | apply W_scope)
    | (with_reducible refine W_prune 2035 ?_; simp only [prb, Nat.reducePow, Nat.reduceDiv, Nat.reduceMod, Nat.reduceBEq]; first | (with_reducible apply W_region_l) | with_reducible refine W_region_draw (id := 14) 5 (.op 0 true (.op 1 true (.op 2 true (.op 3 true (.op 4 true (.op 5 true (.op 6 true (.op 7 true (.op 8 true (.op 9 true (.op 10 true (.op 11 true (.op 12 true (.op 13 true (.op 14 true (.op 15 true (.op 16 false (.op 17 false (.op 18 false (.op 19 true (.done))))))))))))))))))))) (by kernel_rfl) ?_)
    | ((first | (with_reducible apply WL_op; intro nx hnx) | with_reducible refine Ev_out ?_ | (with_reducible apply popsD_op; intro nx hnx) | (with_reducible refine popsD_alt ?_ ?_; intro nx hnx) | (with_reducible refine pfresh_k hnm fun nm hnm => ?_; (try simp only [fmb] at hnm)) | (with_reducible refine pborn_mu hnm fun nm hnm => ?_; (try simp only [fmb] at hnm))); try (simp (maxSteps := 2000000) (disch := omega) only [evb, evd, eve, constPV, seqK, blockK, scopeK, pbound, pelems, PV.mem?, PV.one, PV.cells, peqs, peq1, pkeys, List.set, Value.cells, ↓popG_eq, ↓pop.eq_1, ↓List.getElem?_map, ↓List.getElem?_cons_zero, ↓List.getElem?_cons_succ, Value.oneCell', Nat.reduceAdd, Nat.reduceMul, Nat.reduceSub, Nat.reduceLeDiff, Nat.reduceEqDiff, ↓reduceIte, ne_eq, reduceCtorEq, forall_const, exists_and_left, exists_eq_left', eq_self, Nat.reduceLT, Int.reduceLT, Int.reduceLE, Int.reduceToNat, Int.reduceAdd, Int.reduceSub, Int.reduceNeg, hnm, Tryd.tf0, Tryd.tf1, Tryd.tf3, Tryd.tf4, Tryd.tf5, Tryd.tf9, Tryd.tf23, Tryd.tf48, Tryd.tf49, Tryd.call43, Tryd.call46, hgl, htl, hLl, hcl, g1, g2, g3, g4, lx2, ly2, tx, ty, ho, hl2, tv]); repeat (refine And.intro (by omega) ?_))
    | ((with_reducible first | apply WL_nil | apply W_label | apply W_skip | apply W_exit | apply W_ret | apply popsD_done); try simp only [seqK, blockK, scopeK, ↓reduceIte, Nat.reduceEqDiff])
    | with_reducible exact popsD_stop
    | (with_reducible apply W_cond_k; intro _ _ ea eb; (simp only [condK, cob, opnd, constPV, Nat.reduceEqDiff, Nat.reduceLT, ↓reduceIte, hcb, reduceCtorEq, forall_const, ne_eq]); subst ea eb; first | (refine ⟨fun hc => ?_, fun hc => ?_⟩ <;> first | (exfalso; omega) | (exfalso; exact hc trivial) | skip) | skip)
    | (with_reducible apply hnx; clear hnx nx)
    | (with_reducible refine And.intro (by omega) ?_)
    | (with_reducible refine And.intro ?_ ?_)
    | (with_reducible refine pcall_k (c1) ?_; rintro _ _ ⟨rfl, rfl⟩ -; refine Ev_in ?_)
    | (clear hnx nx; with_reducible apply hnx; clear hnx nx)
    | (clear hnx nx; clear hnx nx; with_reducible apply hnx; clear hnx nx))
        all_goals first
          | exact rfl
          | (exfalso
             omega)
          | (refine hlp2 _ (V - (m + 1)) _ (by omega) ?_ ⟨m + 1, nm, by omega, rfl, by simp [hnm], rfl⟩
             rw [hsu]
             have e2 : ((2 * m : Nat) : Int) + 2 = ((2 * (m + 1) : Nat) : Int) := by omega
             refine Wk_fr (by simp only [wkb, Nat.reduceEqDiff, Nat.reduceLT, ↓reduceIte, e2]) ?_
             exact ⟨by simp, by simp [names, hnm]⟩)
      · obtain rfl : m = V := by omega
        have hel2 := lvC_elems seed (l + 1) m
        refine W_x (τ := ⟨fr 64 [(9, .list 16 ((lvD seed (l + 1) m).map pdg)), (10, pint .i64 (2 * m : Nat)), (8, pint .i64 l), (7, .row T' 1 (l + 1)), (1, pint .i64 h)], [(T', ⟨48, true, 1, tbC seed h (l + 1)⟩)]⟩) (by
          have hf := Wx.freeze_f (G := G) (I := []) (N := 64) (l := [(9, .row M 16 m), (10, pint .i64 (2 * m : Nat)), (8, pint .i64 l), (7, .row T' 1 (l + 1)), (1, pint .i64 h)]) (H := [(M, ⟨23, true, 16, lvC seed (l + 1) m⟩), (T', ⟨48, true, 1, tbC seed h (l + 1)⟩)]) M (o := ⟨23, true, 16, lvC seed (l + 1) m⟩) (by simp) (by simp [look]) (by
            simp only [frzOk, del, hnm, ↓reduceIte, List.forall_mem_cons, List.not_mem_nil, false_implies, implies_true, and_true]
            intro u hu
            obtain ⟨xs, rfl⟩ := tbC_mem hu
            rfl)
          simpa [PM.frz, frz1, frzH, del, hcl, hel2, hnm, tbC_frz] using hf) ?_
        have hts := tbC_succ seed h (l + 1)
        rw [← hV] at hts
        repeat' (first
    | (with_reducible apply W_seq_k; intro nx hnx)
    | (with_reducible first | apply W_block | apply W_scope)
    | (with_reducible refine W_prune 2035 ?_; simp only [prb, Nat.reducePow, Nat.reduceDiv, Nat.reduceMod, Nat.reduceBEq]; first | (with_reducible apply W_region_l) | with_reducible refine W_region_draw (id := 14) 5 (.op 0 true (.op 1 true (.op 2 true (.op 3 true (.op 4 true (.op 5 true (.op 6 true (.op 7 true (.op 8 true (.op 9 true (.op 10 true (.op 11 true (.op 12 true (.op 13 true (.op 14 true (.op 15 true (.op 16 false (.op 17 false (.op 18 false (.op 19 true (.done))))))))))))))))))))) (by kernel_rfl) ?_)
    | ((first | (with_reducible apply WL_op; intro nx hnx) | with_reducible refine Ev_out ?_ | (with_reducible apply popsD_op; intro nx hnx) | (with_reducible refine popsD_alt ?_ ?_; intro nx hnx) | (with_reducible refine pfresh_k hnm fun nm hnm => ?_; (try simp only [fmb] at hnm)) | (with_reducible refine pborn_mu hnm fun nm hnm => ?_; (try simp only [fmb] at hnm))); try (simp (maxSteps := 2000000) (disch := omega) only [evb, evd, eve, constPV, seqK, blockK, scopeK, pbound, pelems, PV.mem?, PV.one, PV.cells, peqs, peq1, pkeys, List.set, Value.cells, ↓popG_eq, ↓pop.eq_1, ↓List.getElem?_map, ↓List.getElem?_cons_zero, ↓List.getElem?_cons_succ, Value.oneCell', Nat.reduceAdd, Nat.reduceMul, Nat.reduceSub, Nat.reduceLeDiff, Nat.reduceEqDiff, ↓reduceIte, ne_eq, reduceCtorEq, forall_const, exists_and_left, exists_eq_left', eq_self, Nat.reduceLT, Int.reduceLT, Int.reduceLE, Int.reduceToNat, Int.reduceAdd, Int.reduceSub, Int.reduceNeg, hnm, Tryd.tf0, Tryd.tf1, Tryd.tf3, Tryd.tf4, Tryd.tf5, Tryd.tf9, Tryd.tf23, Tryd.tf48, Tryd.tf49, Tryd.call43, Tryd.call46, hgl, htl, hLl]); repeat (refine And.intro (by omega) ?_))
    | ((with_reducible first | apply WL_nil | apply W_label | apply W_skip | apply W_exit | apply W_ret | apply popsD_done); try simp only [seqK, blockK, scopeK, ↓reduceIte, Nat.reduceEqDiff])
    | with_reducible exact popsD_stop
    | (with_reducible apply W_cond_k; intro _ _ ea eb; (simp only [condK, cob, opnd, constPV, Nat.reduceEqDiff, Nat.reduceLT, ↓reduceIte, hcb, reduceCtorEq, forall_const, ne_eq]); subst ea eb; first | (refine ⟨fun hc => ?_, fun hc => ?_⟩ <;> first | (exfalso; omega) | (exfalso; exact hc trivial) | skip) | skip)
    | (with_reducible apply hnx; clear hnx nx)
    | (with_reducible refine And.intro (by omega) ?_)
    | (with_reducible refine And.intro ?_ ?_)
    | (clear hnx nx; with_reducible apply hnx; clear hnx nx)
    | (clear hnx nx; clear hnx nx; with_reducible apply hnx; clear hnx nx))
        all_goals first
          | exact rfl
          | (exfalso
             omega)
          | (refine hlp _ (h - (l + 1)) _ (by omega) ?_ ⟨l + 1, nm, by omega, rfl, rfl⟩
             rw [hts]
             refine Wk_fr (by simp only [wkb, Nat.reduceEqDiff, Nat.reduceLT, ↓reduceIte]) ?_
             exact ⟨by simp, by simp [names, hnm]⟩)
    · obtain rfl : l = h := by omega
      repeat' (first
    | (with_reducible apply W_seq_k; intro nx hnx)
    | (with_reducible first | apply W_block | apply W_scope)
    | (with_reducible refine W_prune 2035 ?_; simp only [prb, Nat.reducePow, Nat.reduceDiv, Nat.reduceMod, Nat.reduceBEq]; first | (with_reducible apply W_region_l) | with_reducible refine W_region_draw (id := 14) 5 (.op 0 true (.op 1 true (.op 2 true (.op 3 true (.op 4 true (.op 5 true (.op 6 true (.op 7 true (.op 8 true (.op 9 true (.op 10 true (.op 11 true (.op 12 true (.op 13 true (.op 14 true (.op 15 true (.op 16 false (.op 17 false (.op 18 false (.op 19 true (.done))))))))))))))))))))) (by kernel_rfl) ?_)
    | ((first | (with_reducible apply WL_op; intro nx hnx) | with_reducible refine Ev_out ?_ | (with_reducible apply popsD_op; intro nx hnx) | (with_reducible refine popsD_alt ?_ ?_; intro nx hnx) | (with_reducible refine pfresh_k hnm fun nm hnm => ?_; (try simp only [fmb] at hnm)) | (with_reducible refine pborn_mu hnm fun nm hnm => ?_; (try simp only [fmb] at hnm))); try (simp (maxSteps := 2000000) (disch := omega) only [evb, evd, eve, constPV, seqK, blockK, scopeK, pbound, pelems, PV.mem?, PV.one, PV.cells, peqs, peq1, pkeys, List.set, Value.cells, ↓popG_eq, ↓pop.eq_1, ↓List.getElem?_map, ↓List.getElem?_cons_zero, ↓List.getElem?_cons_succ, Value.oneCell', Nat.reduceAdd, Nat.reduceMul, Nat.reduceSub, Nat.reduceLeDiff, Nat.reduceEqDiff, ↓reduceIte, ne_eq, reduceCtorEq, forall_const, exists_and_left, exists_eq_left', eq_self, Nat.reduceLT, Int.reduceLT, Int.reduceLE, Int.reduceToNat, Int.reduceAdd, Int.reduceSub, Int.reduceNeg, hnm, Tryd.tf0, Tryd.tf1, Tryd.tf3, Tryd.tf4, Tryd.tf5, Tryd.tf9, Tryd.tf23, Tryd.tf48, Tryd.tf49, Tryd.call43, Tryd.call46]); repeat (refine And.intro (by omega) ?_))
    | ((with_reducible first | apply WL_nil | apply W_label | apply W_skip | apply W_exit | apply W_ret | apply popsD_done); try simp only [seqK, blockK, scopeK, ↓reduceIte, Nat.reduceEqDiff])
    | with_reducible exact popsD_stop
    | (with_reducible apply W_cond_k; intro _ _ ea eb; (simp only [condK, cob, opnd, constPV, Nat.reduceEqDiff, Nat.reduceLT, ↓reduceIte, hcb, reduceCtorEq, forall_const, ne_eq]); subst ea eb; first | (refine ⟨fun hc => ?_, fun hc => ?_⟩ <;> first | (exfalso; omega) | (exfalso; exact hc trivial) | skip) | skip)
    | (with_reducible apply hnx; clear hnx nx)
    | (with_reducible refine And.intro (by omega) ?_)
    | (with_reducible refine And.intro ?_ ?_)
    | (clear hnx nx; with_reducible apply hnx; clear hnx nx)
    | (clear hnx nx; clear hnx nx; with_reducible apply hnx; clear hnx nx))
      all_goals first
        | exact rfl
        | (exfalso
           omega)
        | (refine hfin _ _ (Fin_ret1 rfl (Sub_refl (by simp [names])) ?_); simp only [List.getD_cons_zero, List.getD_cons_succ, fr_getD_cons, fr_getD_nil, Nat.reduceEqDiff, Nat.reduceLT, ↓reduceIte]
           exact ⟨T', rfl, rfl⟩)
end Go.PM

namespace Go.PM
open Go.Proofs
attribute [local irreducible] W PCalls pcall pcallI WL
theorem levels_c (G : Globs) (hG : G 0 = .iptr (KS.map pw) 0) (seed : List UInt8) (hs : seed.length ≤ 4000) (h : Nat) (hh : h ≤ 6) :
    PCalls Tryd.prog G 24 [pstr seed, pint .i64 h] [] (fun res H => res = .list 1 (tbC seed h (h + 1)) ∧ H = []) :=
  (levels_r G hG seed hs h hh).frz_row (xs := tbC seed h (h + 1)) fun res H hR => by
    obtain ⟨N, h1, h2⟩ := hR
    exact ⟨N, 48, by rw [tbC_len]; exact h1, h2⟩
/-- What Public answers. -/
def pubF (seed : List UInt8) (n : Int) : List UInt8 × Int :=
  if seed.length = 32 ∧ 0 ≤ n ∧ n ≤ 6 then (nodeV seed n.toNat 0, 0) else (List.replicate 16 0, 1)
theorem pubF_len (seed : List UInt8) (n : Int) : (pubF seed n).1.length = 16 := by
  unfold pubF
  split
  · exact nodeV_len _ _ _
  · simp
/-- The end of a function whose results are a digest that lies in a cell, and a number. -/
theorem Fin_dig2 {x y : Tmp} {n : Int} {f : List UInt8} {e : PV} {R : PV → Heap → Prop} {σ : PState} (hx : σ.frame.getD x .junk = .ptr n 0) (hl : look σ.heap n = some ⟨23, false, 0, f.map pbyte⟩) (hf : f.length = 16)
    (hy : σ.frame.getD y .junk = e) (h3 : R (.tuple [.agg (f.map pbyte), e]) []) : Fin Tryd.prog [.cell x 23, .tmp y] R .ret σ := by
  have hone := all_one_byte f
  have htk : List.take 16 (f.map pbyte) = f.map pbyte := List.take_of_length_le (by rw [List.length_map]; omega)
  refine Fin_ret (H := []) (show PResult Tryd.prog σ [.cell x 23, .tmp y] (.tuple [.agg (f.map pbyte), e]) from ⟨[.agg (f.map pbyte), e], ⟨?_, hy.symm, trivial⟩, rfl⟩) (Sub_nil _) h3
  show PRes Tryd.prog σ (.cell x 23) (.agg (f.map pbyte))
  simp only [PRes, Tryd.tf23, hx, hl]
  simp [pload, hf, htk, hone]
set_option maxRecDepth 100000 in
set_option maxHeartbeats 8000000 in
theorem rpub_c (G : Globs) (hG : G 0 = .iptr (KS.map pw) 0) (seed : List UInt8) (n : Int) (hs : seed.length ≤ 4000) :
    PCalls Tryd.prog G 13 [pstr seed, pint .i64 n] [] (fun res H => res = .tuple [.agg ((pubF seed n).1.map pbyte), pint .i64 (pubF seed n).2] ∧ H = []) := by
  have c0 := fits_c G seed n (by omega)
  have hfl := pubF_len seed n
  (refine PCalls_f Tryd.func13 rfl Tryd.ntmps13 Tryd.results13 (by simp) fun fin hfin => ?_; have hnm : True := trivial; simp (maxSteps := 2000000) (disch := omega) only [evb, evd, eve, constPV, seqK, blockK, scopeK, pbound, pelems, PV.mem?, PV.one, PV.cells, peqs, peq1, pkeys, List.set, Value.cells, ↓popG_eq, ↓pop.eq_1, ↓List.getElem?_map, ↓List.getElem?_cons_zero, ↓List.getElem?_cons_succ, Value.oneCell', Nat.reduceAdd, Nat.reduceMul, Nat.reduceSub, Nat.reduceLeDiff, Nat.reduceEqDiff, ↓reduceIte, ne_eq, reduceCtorEq, forall_const, exists_and_left, exists_eq_left', eq_self, Nat.reduceLT, Int.reduceLT, Int.reduceLE, Int.reduceToNat, Int.reduceAdd, Int.reduceSub, Int.reduceNeg, hnm, Tryd.tf0, Tryd.tf3, Tryd.tf4, Tryd.tf5, Tryd.tf9, Tryd.tf23, Tryd.tf29, Tryd.tf48, Tryd.tf49, Tryd.call23, Tryd.call24])
  by_cases hf : seed.length = 32 ∧ 0 ≤ n ∧ n ≤ 6
  · have hp : pubF seed n = (nodeV seed n.toNat 0, 0) := by rw [pubF, if_pos hf]
    rw [hp] at hfl
    simp only [hp] at hfin
    rw [decide_eq_true hf] at c0
    obtain ⟨h, rfl⟩ : ∃ h : Nat, n = h := ⟨n.toNat, by omega⟩
    simp only [Int.toNat_natCast] at hfl hfin
    have c1 := levels_c G hG seed (by omega) h (by omega)
    have t1 := tbC_len seed h (h + 1)
    have t2 := tbC_get seed h (h + 1) h (by omega)
    rw [show 2 ^ (h - h) = 1 by simp] at t2
    have t3 : ((lvD seed h 1).map pdg).getD 0 PV.junk = .agg ((nodeV seed h 0).map pbyte) := by rw [List.getD_eq_getElem?_getD, List.getElem?_map, lvD_get _ _ _ _ (by omega)]; rfl
    have t5 : (tbC seed h (h + 1)).getD h PV.junk = .list 16 ((lvD seed h 1).map pdg) := by rw [List.getD_eq_getElem?_getD, t2]; rfl
    have t4 : ((lvD seed h 1).map pdg).length = 1 := by rw [List.length_map, lvD_len]
    generalize nodeV seed h 0 = v at *
    have ho := all_one_byte v
    have hl2 : (v.map pbyte).length = 16 := by rw [List.length_map, hfl]
    have tv : List.take 16 (v.map pbyte) = v.map pbyte := List.take_of_length_le (by omega)
    repeat' (first
    | (with_reducible apply W_seq_k; intro nx hnx)
    | (with_reducible first | apply W_block | apply W_scope)
    | (with_reducible refine W_prune 115 ?_; simp only [prb, Nat.reducePow, Nat.reduceDiv, Nat.reduceMod, Nat.reduceBEq]; with_reducible apply W_region_l)
    | ((first | (with_reducible apply WL_op; intro nx hnx) | with_reducible refine Ev_out ?_ | (with_reducible refine pfresh_k hnm fun nm hnm => ?_; (try simp only [fmb] at hnm)) | (with_reducible refine pborn_mu hnm fun nm hnm => ?_; (try simp only [fmb] at hnm))); try (simp (maxSteps := 2000000) (disch := omega) only [evb, evd, eve, constPV, seqK, blockK, scopeK, pbound, pelems, PV.mem?, PV.one, PV.cells, peqs, peq1, pkeys, List.set, Value.cells, ↓popG_eq, ↓pop.eq_1, ↓List.getElem?_map, ↓List.getElem?_cons_zero, ↓List.getElem?_cons_succ, Value.oneCell', Nat.reduceAdd, Nat.reduceMul, Nat.reduceSub, Nat.reduceLeDiff, Nat.reduceEqDiff, ↓reduceIte, ne_eq, reduceCtorEq, forall_const, exists_and_left, exists_eq_left', eq_self, Nat.reduceLT, Int.reduceLT, Int.reduceLE, Int.reduceToNat, Int.reduceAdd, Int.reduceSub, Int.reduceNeg, hnm, Tryd.tf0, Tryd.tf3, Tryd.tf4, Tryd.tf5, Tryd.tf9, Tryd.tf23, Tryd.tf29, Tryd.tf48, Tryd.tf49, Tryd.call23, Tryd.call24, t1, t2, t3, t4, t5, ho, hl2, tv]); repeat (refine And.intro (by omega) ?_))
    | ((with_reducible first | apply WL_nil | apply W_label | apply W_skip | apply W_exit | apply W_ret); try simp only [seqK, blockK, scopeK, ↓reduceIte, Nat.reduceEqDiff])
    | (with_reducible apply W_cond_k; intro _ _ ea eb; (simp only [condK, cob, opnd, constPV, Nat.reduceEqDiff, Nat.reduceLT, ↓reduceIte, hcb, reduceCtorEq, forall_const, ne_eq]); subst ea eb; first | (refine ⟨fun hc => ?_, fun hc => ?_⟩ <;> first | (exfalso; omega) | (exfalso; exact hc trivial) | skip) | skip)
    | (with_reducible apply hnx; clear hnx nx)
    | (with_reducible refine And.intro (by omega) ?_)
    | (with_reducible refine And.intro ?_ ?_)
    | (with_reducible refine pcall_k (c0) ?_; rintro _ _ ⟨rfl, rfl⟩ -; refine Ev_in ?_)
    | (with_reducible refine pcall_k (c1) ?_; rintro _ _ ⟨rfl, rfl⟩ -; refine Ev_in ?_)
    | (clear hnx nx; with_reducible apply hnx; clear hnx nx)
    | (clear hnx nx; clear hnx nx; with_reducible apply hnx; clear hnx nx))
    all_goals first
      | exact rfl
      | (exfalso
         omega)
      | (refine hfin _ _ ?_
         exact Fin_dig2 (n := nm) (by simp only [fr_getD_cons, Nat.reduceEqDiff, Nat.reduceLT, ↓reduceIte]) (by simp [look, hnm]) hfl (by simp only [fr_getD_cons, Nat.reduceEqDiff, Nat.reduceLT, ↓reduceIte]) ⟨rfl, rfl⟩)
  · have hp : pubF seed n = (List.replicate 16 0, 1) := by rw [pubF, if_neg hf]
    simp only [hp] at hfin
    rw [decide_eq_false hf] at c0
    repeat' (first
    | (with_reducible apply W_seq_k; intro nx hnx)
    | (with_reducible first | apply W_block | apply W_scope)
    | (with_reducible refine W_prune 115 ?_; simp only [prb, Nat.reducePow, Nat.reduceDiv, Nat.reduceMod, Nat.reduceBEq]; with_reducible apply W_region_l)
    | ((first | (with_reducible apply WL_op; intro nx hnx) | with_reducible refine Ev_out ?_ | (with_reducible refine pfresh_k hnm fun nm hnm => ?_; (try simp only [fmb] at hnm)) | (with_reducible refine pborn_mu hnm fun nm hnm => ?_; (try simp only [fmb] at hnm))); try (simp (maxSteps := 2000000) (disch := omega) only [evb, evd, eve, constPV, seqK, blockK, scopeK, pbound, pelems, PV.mem?, PV.one, PV.cells, peqs, peq1, pkeys, List.set, Value.cells, ↓popG_eq, ↓pop.eq_1, ↓List.getElem?_map, ↓List.getElem?_cons_zero, ↓List.getElem?_cons_succ, Value.oneCell', Nat.reduceAdd, Nat.reduceMul, Nat.reduceSub, Nat.reduceLeDiff, Nat.reduceEqDiff, ↓reduceIte, ne_eq, reduceCtorEq, forall_const, exists_and_left, exists_eq_left', eq_self, Nat.reduceLT, Int.reduceLT, Int.reduceLE, Int.reduceToNat, Int.reduceAdd, Int.reduceSub, Int.reduceNeg, hnm, Tryd.tf0, Tryd.tf3, Tryd.tf4, Tryd.tf5, Tryd.tf9, Tryd.tf23, Tryd.tf29, Tryd.tf48, Tryd.tf49, Tryd.call23, Tryd.call24]); repeat (refine And.intro (by omega) ?_))
    | ((with_reducible first | apply WL_nil | apply W_label | apply W_skip | apply W_exit | apply W_ret); try simp only [seqK, blockK, scopeK, ↓reduceIte, Nat.reduceEqDiff])
    | (with_reducible apply W_cond_k; intro _ _ ea eb; (simp only [condK, cob, opnd, constPV, Nat.reduceEqDiff, Nat.reduceLT, ↓reduceIte, hcb, reduceCtorEq, forall_const, ne_eq]); subst ea eb; first | (refine ⟨fun hc => ?_, fun hc => ?_⟩ <;> first | (exfalso; omega) | (exfalso; exact hc trivial) | skip) | skip)
    | (with_reducible apply hnx; clear hnx nx)
    | (with_reducible refine And.intro (by omega) ?_)
    | (with_reducible refine And.intro ?_ ?_)
    | (with_reducible refine pcall_k (c0) ?_; rintro _ _ ⟨rfl, rfl⟩ -; refine Ev_in ?_)
    | (clear hnx nx; with_reducible apply hnx; clear hnx nx)
    | (clear hnx nx; clear hnx nx; with_reducible apply hnx; clear hnx nx))
    all_goals first
      | exact rfl
      | (exfalso
         omega)
      | (refine hfin _ _ ?_
         exact Fin_dig2 (n := nm) (f := List.replicate 16 0) (by simp only [fr_getD_cons, Nat.reduceEqDiff, Nat.reduceLT, ↓reduceIte]) (by simp only [look, ↓reduceIte]; rfl) (by simp) (by simp only [fr_getD_cons, Nat.reduceEqDiff, Nat.reduceLT, ↓reduceIte]) ⟨rfl, rfl⟩)
end Go.PM

namespace Go.PM
open Go.Proofs
attribute [local irreducible] W PCalls pcall pcallI WL
def seC (c : UInt8) (i : Nat) : List PV := List.replicate i (pbyte c) ++ List.replicate (32 - i) (pint .u8 0)
theorem seC_len {c : UInt8} {i : Nat} (h : i ≤ 32) : (seC c i).length = 32 := by simp [seC]; omega
theorem seC_zero (c : UInt8) : seC c 0 = List.replicate 32 (pint .u8 0) := rfl
theorem seC_full (c : UInt8) : seC c 32 = (List.replicate 32 c).map pbyte := by simp [seC]
theorem seC_put {c : UInt8} {i : Nat} (h : i < 32) : List.take i (seC c i) ++ [pbyte c] ++ List.drop (i + 1) (seC c i) = seC c (i + 1) := by
  obtain ⟨m, hm⟩ : ∃ m, 32 - i = m + 1 := ⟨32 - i - 1, by omega⟩
  have hl : (List.replicate i (pbyte c)).length = i := by simp
  rw [seC, seC, hm, show 32 - (i + 1) = m by omega, List.take_append_of_le_length (by omega), List.take_of_length_le (by omega), List.drop_append, hl, List.drop_of_length_le (by omega), show i + 1 - i = 1 by omega, List.replicate_succ, List.replicate_succ']
  simp
attribute [local irreducible] seC
set_option maxRecDepth 100000 in
set_option maxHeartbeats 8000000 in
theorem seed_c (G : Globs) (c : UInt8) : PCalls Tryd.prog G 20 [pbyte c] [] (fun res H => res = pstr (List.replicate 32 c) ∧ H = []) := by
  (refine PCalls_f Tryd.func20 rfl Tryd.ntmps20 Tryd.results20 (by simp) fun fin hfin => ?_; have hnm : True := trivial; simp (maxSteps := 2000000) (disch := omega) only [evb, evd, eve, constPV, seqK, blockK, scopeK, pbound, pelems, PV.mem?, PV.one, PV.cells, peqs, peq1, pkeys, List.set, Value.cells, ↓popG_eq, ↓pop.eq_1, ↓List.getElem?_map, ↓List.getElem?_cons_zero, ↓List.getElem?_cons_succ, Value.oneCell', Nat.reduceAdd, Nat.reduceMul, Nat.reduceSub, Nat.reduceLeDiff, Nat.reduceEqDiff, ↓reduceIte, ne_eq, reduceCtorEq, forall_const, exists_and_left, exists_eq_left', eq_self, Nat.reduceLT, Int.reduceLT, Int.reduceLE, Int.reduceToNat, Int.reduceAdd, Int.reduceSub, Int.reduceNeg, hnm, Tryd.tf0, Tryd.tf3, Tryd.tf4, Tryd.tf5, Tryd.tf9, Tryd.tf52])
  repeat' (first
    | (with_reducible apply W_seq_k; intro nx hnx)
    | (with_reducible first | apply W_block | apply W_scope)
    | (with_reducible refine W_prune 29 ?_; simp only [prb, Nat.reducePow, Nat.reduceDiv, Nat.reduceMod, Nat.reduceBEq]; with_reducible apply W_region_l)
    | ((first | (with_reducible apply WL_op; intro nx hnx) | with_reducible refine Ev_out ?_ | (with_reducible refine pfresh_k hnm fun nm hnm => ?_; (try simp only [fmb] at hnm)) | (with_reducible refine pborn_mu hnm fun nm hnm => ?_; (try simp only [fmb] at hnm))); try (simp (maxSteps := 2000000) (disch := omega) only [evb, evd, eve, constPV, seqK, blockK, scopeK, pbound, pelems, PV.mem?, PV.one, PV.cells, peqs, peq1, pkeys, List.set, Value.cells, ↓popG_eq, ↓pop.eq_1, ↓List.getElem?_map, ↓List.getElem?_cons_zero, ↓List.getElem?_cons_succ, Value.oneCell', Nat.reduceAdd, Nat.reduceMul, Nat.reduceSub, Nat.reduceLeDiff, Nat.reduceEqDiff, ↓reduceIte, ne_eq, reduceCtorEq, forall_const, exists_and_left, exists_eq_left', eq_self, Nat.reduceLT, Int.reduceLT, Int.reduceLE, Int.reduceToNat, Int.reduceAdd, Int.reduceSub, Int.reduceNeg, hnm, Tryd.tf0, Tryd.tf3, Tryd.tf4, Tryd.tf5, Tryd.tf9, Tryd.tf52]); repeat (refine And.intro (by omega) ?_))
    | ((with_reducible first | apply WL_nil | apply W_label | apply W_skip | apply W_exit | apply W_ret); try simp only [seqK, blockK, scopeK, ↓reduceIte, Nat.reduceEqDiff])
    | (with_reducible apply W_cond_k; intro _ _ ea eb; (simp only [condK, cob, opnd, constPV, Nat.reduceEqDiff, Nat.reduceLT, ↓reduceIte, hcb, reduceCtorEq, forall_const, ne_eq]); subst ea eb; first | (refine ⟨fun hc => ?_, fun hc => ?_⟩ <;> first | (exfalso; omega) | (exfalso; exact hc trivial) | skip) | skip)
    | (with_reducible apply hnx; clear hnx nx)
    | (with_reducible refine And.intro (by omega) ?_)
    | (with_reducible refine And.intro ?_ ?_)
    | (clear hnx nx; with_reducible apply hnx; clear hnx nx)
    | (clear hnx nx; clear hnx nx; with_reducible apply hnx; clear hnx nx))
  obtain ⟨N, hN⟩ : ∃ N, N = nm := ⟨_, rfl⟩
  subst hN
  refine W_loop_k (fun z τ => ∃ i : Nat, i ≤ 32 ∧ z = 32 - i ∧ τ = ⟨fr 16 [(4, pint .i64 i), (3, .row N 1 32), (0, pbyte c)], [(N, ⟨5, true, 1, seC c i⟩)]⟩) 32
    ⟨fr 16 [(4, pint .i64 (0 : Nat)), (3, .row N 1 32), (0, pbyte c)], [(N, ⟨5, true, 1, seC c 0⟩)]⟩ (by
    rw [seC_zero]
    refine Wk_fr (by simp only [wkb, Nat.reduceEqDiff, Nat.reduceLT, ↓reduceIte]) ?_
    exact Sub_refl (by simp [names])) ⟨0, by omega, by omega, rfl⟩ ?_
  rintro z τ ⟨i, hi, rfl, rfl⟩ lp hlp
  have hl := seC_len (c := c) hi
  by_cases hlt : i < 32
  · have hput := seC_put (c := c) hlt
    repeat' (first
    | (with_reducible apply W_seq_k; intro nx hnx)
    | (with_reducible first | apply W_block | apply W_scope)
    | (with_reducible refine W_prune 29 ?_; simp only [prb, Nat.reducePow, Nat.reduceDiv, Nat.reduceMod, Nat.reduceBEq]; with_reducible apply W_region_l)
    | ((first | (with_reducible apply WL_op; intro nx hnx) | with_reducible refine Ev_out ?_ | (with_reducible refine pfresh_k hnm fun nm hnm => ?_; (try simp only [fmb] at hnm)) | (with_reducible refine pborn_mu hnm fun nm hnm => ?_; (try simp only [fmb] at hnm))); try (simp (maxSteps := 2000000) (disch := omega) only [evb, evd, eve, constPV, seqK, blockK, scopeK, pbound, pelems, PV.mem?, PV.one, PV.cells, peqs, peq1, pkeys, List.set, Value.cells, ↓popG_eq, ↓pop.eq_1, ↓List.getElem?_map, ↓List.getElem?_cons_zero, ↓List.getElem?_cons_succ, Value.oneCell', Nat.reduceAdd, Nat.reduceMul, Nat.reduceSub, Nat.reduceLeDiff, Nat.reduceEqDiff, ↓reduceIte, ne_eq, reduceCtorEq, forall_const, exists_and_left, exists_eq_left', eq_self, Nat.reduceLT, Int.reduceLT, Int.reduceLE, Int.reduceToNat, Int.reduceAdd, Int.reduceSub, Int.reduceNeg, hnm, Tryd.tf0, Tryd.tf3, Tryd.tf4, Tryd.tf5, Tryd.tf9, Tryd.tf52, hl, hput]); repeat (refine And.intro (by omega) ?_))
    | ((with_reducible first | apply WL_nil | apply W_label | apply W_skip | apply W_exit | apply W_ret); try simp only [seqK, blockK, scopeK, ↓reduceIte, Nat.reduceEqDiff])
    | (with_reducible apply W_cond_k; intro _ _ ea eb; (simp only [condK, cob, opnd, constPV, Nat.reduceEqDiff, Nat.reduceLT, ↓reduceIte, hcb, reduceCtorEq, forall_const, ne_eq]); subst ea eb; first | (refine ⟨fun hc => ?_, fun hc => ?_⟩ <;> first | (exfalso; omega) | (exfalso; exact hc trivial) | skip) | skip)
    | (with_reducible apply hnx; clear hnx nx)
    | (with_reducible refine And.intro (by omega) ?_)
    | (with_reducible refine And.intro ?_ ?_)
    | (clear hnx nx; with_reducible apply hnx; clear hnx nx)
    | (clear hnx nx; clear hnx nx; with_reducible apply hnx; clear hnx nx))
    all_goals first
      | exact rfl
      | (exfalso
         omega)
      | (refine hlp _ (32 - (i + 1)) _ (by omega) ?_ ⟨i + 1, by omega, rfl, rfl⟩
         refine Wk_fr (by simp only [wkb, Nat.reduceEqDiff, Nat.reduceLT, ↓reduceIte]) ?_
         exact Sub_refl (by simp [names]))
  · obtain rfl : i = 32 := by omega
    have hfull := seC_full c
    have hrl : (List.replicate 32 c).length = 32 := by simp
    rw [hfull] at hl ⊢
    generalize List.replicate 32 c = s at *
    have b1 := isByte_pb s
    have b2 := unb_pb s
    have tk : List.take 32 (s.map pbyte) = s.map pbyte := List.take_of_length_le (by omega)
    repeat' (first
    | (with_reducible apply W_seq_k; intro nx hnx)
    | (with_reducible first | apply W_block | apply W_scope)
    | (with_reducible refine W_prune 29 ?_; simp only [prb, Nat.reducePow, Nat.reduceDiv, Nat.reduceMod, Nat.reduceBEq]; with_reducible apply W_region_l)
    | ((first | (with_reducible apply WL_op; intro nx hnx) | with_reducible refine Ev_out ?_ | (with_reducible refine pfresh_k hnm fun nm hnm => ?_; (try simp only [fmb] at hnm)) | (with_reducible refine pborn_mu hnm fun nm hnm => ?_; (try simp only [fmb] at hnm))); try (simp (maxSteps := 2000000) (disch := omega) only [evb, evd, eve, constPV, seqK, blockK, scopeK, pbound, pelems, PV.mem?, PV.one, PV.cells, peqs, peq1, pkeys, List.set, Value.cells, ↓popG_eq, ↓pop.eq_1, ↓List.getElem?_map, ↓List.getElem?_cons_zero, ↓List.getElem?_cons_succ, Value.oneCell', Nat.reduceAdd, Nat.reduceMul, Nat.reduceSub, Nat.reduceLeDiff, Nat.reduceEqDiff, ↓reduceIte, ne_eq, reduceCtorEq, forall_const, exists_and_left, exists_eq_left', eq_self, Nat.reduceLT, Int.reduceLT, Int.reduceLE, Int.reduceToNat, Int.reduceAdd, Int.reduceSub, Int.reduceNeg, hnm, Tryd.tf0, Tryd.tf3, Tryd.tf4, Tryd.tf5, Tryd.tf9, Tryd.tf52, hl, b1, b2, tk]); repeat (refine And.intro (by omega) ?_))
    | ((with_reducible first | apply WL_nil | apply W_label | apply W_skip | apply W_exit | apply W_ret); try simp only [seqK, blockK, scopeK, ↓reduceIte, Nat.reduceEqDiff])
    | (with_reducible apply W_cond_k; intro _ _ ea eb; (simp only [condK, cob, opnd, constPV, Nat.reduceEqDiff, Nat.reduceLT, ↓reduceIte, hcb, reduceCtorEq, forall_const, ne_eq]); subst ea eb; first | (refine ⟨fun hc => ?_, fun hc => ?_⟩ <;> first | (exfalso; omega) | (exfalso; exact hc trivial) | skip) | skip)
    | (with_reducible apply hnx; clear hnx nx)
    | (with_reducible refine And.intro (by omega) ?_)
    | (with_reducible refine And.intro ?_ ?_)
    | (clear hnx nx; with_reducible apply hnx; clear hnx nx)
    | (clear hnx nx; clear hnx nx; with_reducible apply hnx; clear hnx nx))
    all_goals first
      | exact rfl
      | (exfalso
         omega)
      | (refine hfin _ _ (Fin_ret1 rfl (Sub_nil _) ?_); simp only [List.getD_cons_zero, List.getD_cons_succ, fr_getD_cons, fr_getD_nil, Nat.reduceEqDiff, Nat.reduceLT, ↓reduceIte]; first | trivial | exact ⟨rfl, by trivial⟩ | (simp; done) | (simp; omega))
end Go.PM

namespace Go.PM
open Go.Proofs
attribute [local irreducible] W PCalls pcall pcallI WL
/-- The neighbour of a node. -/
def sib (i : Nat) : Nat := if i % 2 = 1 then i - 1 else i + 1
/-- What a signature tells of a chain. -/
def sigV (seed : List UInt8) (i : Int) (dg : List Nat) (c : Nat) : List UInt8 := advF i c 0 ((dg.getD c 0 : Nat) - 0 : Int).toNat (startF seed i c)
theorem sigV_len (seed : List UInt8) (i : Int) (dg : List Nat) (c : Nat) : (sigV seed i dg c).length = 16 := advF_len _ _ _ _ _ (startF_len _ _ _)
/-- The neighbours on the way to the root. -/
def patV (seed : List UInt8) (i l : Nat) : List UInt8 := nodeV seed l (sib (i / 2 ^ l))
theorem patV_len (seed : List UInt8) (i l : Nat) : (patV seed i l).length = 16 := nodeV_len _ _ _
/-- A signature that is made. -/
def sigT (seed : List UInt8) (h i : Nat) (m : List UInt8) : List UInt8 :=
  intB i ++ catF (sigV seed i (digF (digestF (nodeV seed h 0) i m))) 68 ++ catF (patV seed i) h
/-- What Sign answers. -/
def signF (seed : List UInt8) (n i : Int) (m : List UInt8) : List UInt8 × Int :=
  if ¬ (seed.length = 32 ∧ 0 ≤ n ∧ n ≤ 6) then ([], 1) else if i < 0 ∨ 2 ^ n.toNat ≤ i then ([], 23) else (sigT seed n.toNat i.toNat m, 0)
theorem digF_get (d : List UInt8) (c : Nat) (h : c < 68) : ((digF d).map pn')[c]? = some (pint .i64 ((digF d).getD c 0 : Nat)) := by
  rw [List.getElem?_map, List.getD_eq_getElem?_getD, List.getElem?_eq_getElem (by rw [digF_len]; exact h)]
  rfl
theorem digF_lt (d : List UInt8) (c : Nat) : (digF d).getD c 0 < 4 := by
  rw [List.getD_eq_getElem?_getD]
  cases h : (digF d)[c]? with
  | none => simp
  | some x =>
    have hm := List.mem_of_getElem? h
    simp only [digF, List.mem_append, List.mem_map, chk, List.mem_cons, List.not_mem_nil, or_false] at hm
    simp only [Option.getD_some]
    rcases hm with ⟨j, _, rfl⟩ | rfl | rfl | rfl | rfl
    · exact dig_lt _ _
    all_goals omega
set_option maxRecDepth 100000 in
set_option maxHeartbeats 8000000 in
theorem rsign_c (G : Globs) (hG : G 0 = .iptr (KS.map pw) 0) (seed : List UInt8) (n i : Int) (m : List UInt8) (hs : seed.length ≤ 4000) (hi : inR i) (hm : m.length ≤ 4000) :
    PCalls Tryd.prog G 15 [pstr seed, pint .i64 n, pint .i64 i, pstr m] [] (fun res H => res = .tuple [pstr (signF seed n i m).1, pint .i64 (signF seed n i m).2] ∧ H = []) := by
  have c0 := fits_c G seed n (by omega)
  (refine PCalls_f Tryd.func15 rfl Tryd.ntmps15 Tryd.results15 (by simp) fun fin hfin => ?_; have hnm : True := trivial; simp (maxSteps := 2000000) (disch := omega) only [evb, evd, eve, constPV, seqK, blockK, scopeK, pbound, pelems, PV.mem?, PV.one, PV.cells, peqs, peq1, pkeys, List.set, Value.cells, ↓popG_eq, ↓pop.eq_1, ↓List.getElem?_map, ↓List.getElem?_cons_zero, ↓List.getElem?_cons_succ, Value.oneCell', Nat.reduceAdd, Nat.reduceMul, Nat.reduceSub, Nat.reduceLeDiff, Nat.reduceEqDiff, ↓reduceIte, ne_eq, reduceCtorEq, forall_const, exists_and_left, exists_eq_left', eq_self, Nat.reduceLT, Int.reduceLT, Int.reduceLE, Int.reduceToNat, Int.reduceAdd, Int.reduceSub, Int.reduceNeg, hnm, Tryd.tf0, Tryd.tf3, Tryd.tf4, Tryd.tf5, Tryd.tf9, Tryd.tf23, Tryd.tf25, Tryd.tf29, Tryd.tf48, Tryd.tf49, Tryd.tf52, Tryd.call11, Tryd.call17, Tryd.call23, Tryd.call24, Tryd.call30, Tryd.call31, Tryd.call32, Tryd.call33])
  by_cases hf : seed.length = 32 ∧ 0 ≤ n ∧ n ≤ 6
  · rw [decide_eq_true hf] at c0
    obtain ⟨h, rfl⟩ : ∃ h : Nat, n = h := ⟨n.toNat, by omega⟩
    have hh : h ≤ 6 := by omega
    have hsh := shl_op ⟨h, by omega⟩
    simp only at hsh
    obtain ⟨w, hw⟩ : ∃ w, w = 2 ^ h := ⟨_, rfl⟩
    have hw64 := pow_le64 h hh
    rw [← hw] at hsh hw64
    by_cases hb : i < 0 ∨ (w : Int) ≤ i
    · have hp : signF seed h i m = ([], 23) := by
        rw [signF, if_neg (by simpa using hf), if_pos (by rw [Int.toNat_natCast]; rw [hw] at hb; exact_mod_cast hb)]
      simp only [hp] at hfin
      repeat' (first
    | (with_reducible apply W_seq_k; intro nx hnx)
    | (with_reducible first | apply W_block | apply W_scope)
    | (with_reducible refine W_prune 261903 ?_; simp only [prb, Nat.reducePow, Nat.reduceDiv, Nat.reduceMod, Nat.reduceBEq]; first | (with_reducible apply W_region_l) | with_reducible refine W_region_draw (id := 14) 3 (.op 0 true (.op 1 true (.op 2 true (.op 3 true (.op 4 true (.op 5 true (.op 6 true (.op 7 true (.op 8 true (.op 9 true (.op 10 true (.op 11 false (.op 12 false (.op 13 true (.op 14 true (.done)))))))))))))))) (by kernel_rfl) ?_)
    | ((first | (with_reducible apply WL_op; intro nx hnx) | with_reducible refine Ev_out ?_ | (with_reducible apply popsD_op; intro nx hnx) | (with_reducible refine popsD_alt ?_ ?_; intro nx hnx) | (with_reducible refine pfresh_k hnm fun nm hnm => ?_; (try simp only [fmb] at hnm)) | (with_reducible refine pborn_mu hnm fun nm hnm => ?_; (try simp only [fmb] at hnm))); try (simp (maxSteps := 2000000) (disch := omega) only [evb, evd, eve, constPV, seqK, blockK, scopeK, pbound, pelems, PV.mem?, PV.one, PV.cells, peqs, peq1, pkeys, List.set, Value.cells, ↓popG_eq, ↓pop.eq_1, ↓List.getElem?_map, ↓List.getElem?_cons_zero, ↓List.getElem?_cons_succ, Value.oneCell', Nat.reduceAdd, Nat.reduceMul, Nat.reduceSub, Nat.reduceLeDiff, Nat.reduceEqDiff, ↓reduceIte, ne_eq, reduceCtorEq, forall_const, exists_and_left, exists_eq_left', eq_self, Nat.reduceLT, Int.reduceLT, Int.reduceLE, Int.reduceToNat, Int.reduceAdd, Int.reduceSub, Int.reduceNeg, hnm, Tryd.tf0, Tryd.tf3, Tryd.tf4, Tryd.tf5, Tryd.tf9, Tryd.tf23, Tryd.tf25, Tryd.tf29, Tryd.tf48, Tryd.tf49, Tryd.tf52, Tryd.call11, Tryd.call17, Tryd.call23, Tryd.call24, Tryd.call30, Tryd.call31, Tryd.call32, Tryd.call33, hsh]); repeat (refine And.intro (by omega) ?_))
    | ((with_reducible first | apply WL_nil | apply W_label | apply W_skip | apply W_exit | apply W_ret | apply popsD_done); try simp only [seqK, blockK, scopeK, ↓reduceIte, Nat.reduceEqDiff])
    | with_reducible exact popsD_stop
    | (with_reducible apply pguard_intro <;> (intro hc; (try simp only [hcb, reduceCtorEq, forall_const, ne_eq] at hc); first | (exfalso; omega) | (exfalso; exact hc trivial) | refine Ev_in ?_))
    | (with_reducible apply W_cond_k; intro _ _ ea eb; (simp only [condK, cob, opnd, constPV, Nat.reduceEqDiff, Nat.reduceLT, ↓reduceIte, hcb, reduceCtorEq, forall_const, ne_eq]); subst ea eb; first | (refine ⟨fun hc => ?_, fun hc => ?_⟩ <;> first | (exfalso; omega) | (exfalso; exact hc trivial) | skip) | skip)
    | (with_reducible apply hnx; clear hnx nx)
    | (with_reducible refine And.intro (by omega) ?_)
    | (with_reducible refine And.intro ?_ ?_)
    | (with_reducible refine pcall_k (c0) ?_; rintro _ _ ⟨rfl, rfl⟩ -; refine Ev_in ?_)
    | (clear hnx nx; with_reducible apply hnx; clear hnx nx)
    | (clear hnx nx; clear hnx nx; with_reducible apply hnx; clear hnx nx))
      all_goals first
        | (exfalso
           exact hc trivial)
        | exact rfl
        | (exfalso
           omega)
        | (intro hh
           exfalso
           simp at hh
           done)
        | (intro hh
           exfalso
           simp at hh
           omega)
        | (refine hfin _ _ (Fin_ret2 rfl rfl (Sub_nil _) ?_); simp only [List.getD_cons_zero, List.getD_cons_succ, fr_getD_cons, fr_getD_nil, Nat.reduceEqDiff, Nat.reduceLT, ↓reduceIte]; first | trivial | exact ⟨rfl, by trivial⟩ | (simp; done) | (simp; omega))
    · have hp : signF seed h i m = (sigT seed h i.toNat m, 0) := by
        rw [signF, if_neg (by simpa using hf), if_neg (by rw [Int.toNat_natCast]; rw [hw] at hb; exact_mod_cast hb), Int.toNat_natCast]
      simp only [hp] at hfin
      clear hp
      obtain ⟨k, rfl⟩ : ∃ k : Nat, i = k := ⟨i.toNat, by omega⟩
      have hkw : k < w := by omega
      simp only [Int.toNat_natCast] at hfin
      have hk0 : (k : Int) < (w : Int) := by omega
      have h9 := intB_len9 hi
      have c1 := levels_c G hG seed (by omega) h (by omega)
      have t1 := tbC_len seed h (h + 1)
      have t2 := tbC_get seed h (h + 1) h (by omega)
      rw [show 2 ^ (h - h) = 1 by simp] at t2
      have t3 : ((lvD seed h 1).map pdg).getD 0 PV.junk = .agg ((nodeV seed h 0).map pbyte) := by rw [List.getD_eq_getElem?_getD, List.getElem?_map, lvD_get _ _ _ _ (by omega)]; rfl
      have t5 : (tbC seed h (h + 1)).getD h PV.junk = .list 16 ((lvD seed h 1).map pdg) := by rw [List.getD_eq_getElem?_getD, t2]; rfl
      have t4 : ((lvD seed h 1).map pdg).length = 1 := by rw [List.length_map, lvD_len]
      have hvl := nodeV_len seed h 0
      have c2 := rhdig_c G hG (nodeV seed h 0) k m hvl hi hm
      have hdl := digestF_len (nodeV seed h 0) k m
      have c3 := rdig_c G (digestF (nodeV seed h 0) k m) hdl
      have hqg := digF_get (digestF (nodeV seed h 0) k m)
      have hql := digF_lt (digestF (nodeV seed h 0) k m)
      have hqn := digF_len (digestF (nodeV seed h 0) k m)
      have hsig : sigT seed h k m = intB k ++ catF (sigV seed k (digF (digestF (nodeV seed h 0) k m))) 68 ++ catF (patV seed k) h := rfl
      generalize sigT seed h k m = S at *
      generalize digF (digestF (nodeV seed h 0) k m) = q at *
      generalize digestF (nodeV seed h 0) k m = d at *
      generalize nodeV seed h 0 = v at *
      have ho := all_one_byte v
      have hl2 : (v.map pbyte).length = 16 := by rw [List.length_map, hvl]
      have tv : List.take 16 (v.map pbyte) = v.map pbyte := List.take_of_length_le (by omega)
      have c4 := rint_c G k hi.1 hi.2
      have b1 := isByte_pb (intB k)
      have b2 := unb_pb (intB k)
      have hlenS := catF_len (sigV_len seed k q)
      obtain ⟨e, he⟩ : ∃ e, e = intB (k : Int) := ⟨_, rfl⟩
      rw [← he] at c4 b1 b2 h9 hsig
      have hq2 : (q.map pn').length = 68 := by rw [List.length_map, hqn]
      repeat' (first
    | (with_reducible apply W_seq_k; intro nx hnx)
    | (with_reducible first | apply W_block | apply W_scope)
    | (with_reducible refine W_prune 261903 ?_; simp only [prb, Nat.reducePow, Nat.reduceDiv, Nat.reduceMod, Nat.reduceBEq]; first | (with_reducible apply W_region_l) | with_reducible refine W_region_draw (id := 14) 3 (.op 0 true (.op 1 true (.op 2 true (.op 3 true (.op 4 true (.op 5 true (.op 6 true (.op 7 true (.op 8 true (.op 9 true (.op 10 true (.op 11 false (.op 12 false (.op 13 true (.op 14 true (.done)))))))))))))))) (by kernel_rfl) ?_)
    | ((first | (with_reducible apply WL_op; intro nx hnx) | with_reducible refine Ev_out ?_ | (with_reducible apply popsD_op; intro nx hnx) | (with_reducible refine popsD_alt ?_ ?_; intro nx hnx) | (with_reducible refine pfresh_k hnm fun nm hnm => ?_; (try simp only [fmb] at hnm)) | (with_reducible refine pborn_mu hnm fun nm hnm => ?_; (try simp only [fmb] at hnm))); try (simp (maxSteps := 2000000) (disch := omega) only [evb, evd, eve, constPV, seqK, blockK, scopeK, pbound, pelems, PV.mem?, PV.one, PV.cells, peqs, peq1, pkeys, List.set, Value.cells, ↓popG_eq, ↓pop.eq_1, ↓List.getElem?_map, ↓List.getElem?_cons_zero, ↓List.getElem?_cons_succ, Value.oneCell', Nat.reduceAdd, Nat.reduceMul, Nat.reduceSub, Nat.reduceLeDiff, Nat.reduceEqDiff, ↓reduceIte, ne_eq, reduceCtorEq, forall_const, exists_and_left, exists_eq_left', eq_self, Nat.reduceLT, Int.reduceLT, Int.reduceLE, Int.reduceToNat, Int.reduceAdd, Int.reduceSub, Int.reduceNeg, hnm, Tryd.tf0, Tryd.tf3, Tryd.tf4, Tryd.tf5, Tryd.tf9, Tryd.tf23, Tryd.tf25, Tryd.tf29, Tryd.tf48, Tryd.tf49, Tryd.tf52, Tryd.call11, Tryd.call17, Tryd.call23, Tryd.call24, Tryd.call30, Tryd.call31, Tryd.call32, Tryd.call33, hk0, hsh, t1, t2, t3, t4, t5, ho, hl2, tv, b1, b2]); repeat (refine And.intro (by omega) ?_))
    | ((with_reducible first | apply WL_nil | apply W_label | apply W_skip | apply W_exit | apply W_ret | apply popsD_done); try simp only [seqK, blockK, scopeK, ↓reduceIte, Nat.reduceEqDiff])
    | with_reducible exact popsD_stop
    | (with_reducible apply pguard_intro <;> (intro hc; (try simp only [hcb, reduceCtorEq, forall_const, ne_eq] at hc); first | (exfalso; omega) | (exfalso; exact hc trivial) | refine Ev_in ?_))
    | (with_reducible apply W_cond_k; intro _ _ ea eb; (simp only [condK, cob, opnd, constPV, Nat.reduceEqDiff, Nat.reduceLT, ↓reduceIte, hcb, reduceCtorEq, forall_const, ne_eq]); subst ea eb; first | (refine ⟨fun hc => ?_, fun hc => ?_⟩ <;> first | (exfalso; omega) | (exfalso; exact hc trivial) | skip) | skip)
    | (with_reducible apply hnx; clear hnx nx)
    | (with_reducible refine And.intro (by omega) ?_)
    | (with_reducible refine And.intro ?_ ?_)
    | (with_reducible refine pcall_k (c0) ?_; rintro _ _ ⟨rfl, rfl⟩ -; refine Ev_in ?_)
    | (with_reducible refine pcall_k (c1) ?_; rintro _ _ ⟨rfl, rfl⟩ -; refine Ev_in ?_)
    | (with_reducible refine pcall_k (c2) ?_; rintro _ _ ⟨rfl, rfl⟩ -; refine Ev_in ?_)
    | (with_reducible refine pcall_k (c3) ?_; rintro _ _ ⟨rfl, rfl⟩ -; refine Ev_in ?_)
    | (with_reducible refine pcall_k (c4) ?_; rintro _ _ ⟨rfl, rfl⟩ -; refine Ev_in ?_)
    | (clear hnx nx; with_reducible apply hnx; clear hnx nx)
    | (clear hnx nx; clear hnx nx; with_reducible apply hnx; clear hnx nx))
      all_goals first
        | exact rfl
        | (exfalso
           omega)
        | (intro hh
           exfalso
           simp at hh
           done)
        | (intro hh
           exfalso
           simp at hh
           omega)
        | skip
      refine W_loop_k (fun z τ => ∃ (c : Nat) (s : List UInt8), c ≤ 68 ∧ z = 68 - c ∧ s = e ++ catF (sigV seed k q) c ∧
          τ = ⟨fr 94 [(14, pint .i64 c), (13, pstr s), (12, .list 1 (q.map pn')), (11, .list 1 (tbC seed h (h + 1))), (0, pstr seed), (1, pint .i64 h), (2, pint .i64 k)], []⟩) 68
        ⟨fr 94 [(14, pint .i64 (0 : Nat)), (13, pstr e), (12, .list 1 (q.map pn')), (11, .list 1 (tbC seed h (h + 1))), (0, pstr seed), (1, pint .i64 h), (2, pint .i64 k)], []⟩ (by
        refine Wk_fr (by simp only [wkb, Nat.reduceEqDiff, Nat.reduceLT, ↓reduceIte]) ?_
        exact Sub_refl (by simp [names])) ⟨0, e, by omega, by omega, by rw [catF_zero, List.append_nil], rfl⟩ ?_
      rintro z τ ⟨c, s, hc, rfl, hsc, rfl⟩ lp hlp
      have hsl : s.length ≤ 9 + 16 * c := by rw [hsc, List.length_append, hlenS]; omega
      by_cases hlt : c < 68
      · have hcR : inR (c : Int) := ⟨by omega, by omega⟩
        have hg := hqg c hlt
        have hgl := hql c
        have hg3 : (q.map pn').getD c PV.junk = pint .i64 (q.getD c 0 : Nat) := by rw [List.getD_eq_getElem?_getD, hg]; rfl
        have d1 := rstart_c G hG seed hs k c hi hcR
        have d2 := radv_c G hG k c 0 (q.getD c 0 : Nat) (startF seed k c) hi hcR (by omega) (by omega) (by omega) (by omega) (startF_len _ _ _)
        rw [show advF k c 0 (((q.getD c 0 : Nat) : Int) - 0).toNat (startF seed k c) = sigV seed k q c from rfl] at d2
        have d3 := text_c G (sigV seed k q c) (sigV_len _ _ _ _)
        have hsu := catF_succ (sigV seed k q) c
        obtain ⟨u, hu⟩ : ∃ u, u = s ++ sigV seed k q c := ⟨_, rfl⟩
        have htl := sigV_len seed k q c
        have hul : u = e ++ catF (sigV seed k q) (c + 1) := by rw [hu, hsc, hsu, List.append_assoc]
        generalize sigV seed k q c = t at *
        generalize startF seed k c = v at *
        generalize q.getD c 0 = x at *
        repeat' (first
    | (with_reducible apply W_seq_k; intro nx hnx)
    | (with_reducible first | apply W_block | apply W_scope)
    | (with_reducible refine W_prune 261903 ?_; simp only [prb, Nat.reducePow, Nat.reduceDiv, Nat.reduceMod, Nat.reduceBEq]; first | (with_reducible apply W_region_l) | with_reducible refine W_region_draw (id := 14) 3 (.op 0 true (.op 1 true (.op 2 true (.op 3 true (.op 4 true (.op 5 true (.op 6 true (.op 7 true (.op 8 true (.op 9 true (.op 10 true (.op 11 false (.op 12 false (.op 13 true (.op 14 true (.done)))))))))))))))) (by kernel_rfl) ?_)
    | ((first | (with_reducible apply WL_op; intro nx hnx) | with_reducible refine Ev_out ?_ | (with_reducible apply popsD_op; intro nx hnx) | (with_reducible refine popsD_alt ?_ ?_; intro nx hnx) | (with_reducible refine pfresh_k hnm fun nm hnm => ?_; (try simp only [fmb] at hnm)) | (with_reducible refine pborn_mu hnm fun nm hnm => ?_; (try simp only [fmb] at hnm))); try (simp (maxSteps := 2000000) (disch := omega) only [evb, evd, eve, constPV, seqK, blockK, scopeK, pbound, pelems, PV.mem?, PV.one, PV.cells, peqs, peq1, pkeys, List.set, Value.cells, ↓popG_eq, ↓pop.eq_1, ↓List.getElem?_map, ↓List.getElem?_cons_zero, ↓List.getElem?_cons_succ, Value.oneCell', Nat.reduceAdd, Nat.reduceMul, Nat.reduceSub, Nat.reduceLeDiff, Nat.reduceEqDiff, ↓reduceIte, ne_eq, reduceCtorEq, forall_const, exists_and_left, exists_eq_left', eq_self, Nat.reduceLT, Int.reduceLT, Int.reduceLE, Int.reduceToNat, Int.reduceAdd, Int.reduceSub, Int.reduceNeg, hnm, Tryd.tf0, Tryd.tf3, Tryd.tf4, Tryd.tf5, Tryd.tf9, Tryd.tf23, Tryd.tf25, Tryd.tf29, Tryd.tf48, Tryd.tf49, Tryd.tf52, Tryd.call11, Tryd.call17, Tryd.call23, Tryd.call24, Tryd.call30, Tryd.call31, Tryd.call32, Tryd.call33, ← hu, hsl, htl, hg, hg3, hq2]); repeat (refine And.intro (by omega) ?_))
    | ((with_reducible first | apply WL_nil | apply W_label | apply W_skip | apply W_exit | apply W_ret | apply popsD_done); try simp only [seqK, blockK, scopeK, ↓reduceIte, Nat.reduceEqDiff])
    | with_reducible exact popsD_stop
    | (with_reducible apply pguard_intro <;> (intro hc; (try simp only [hcb, reduceCtorEq, forall_const, ne_eq] at hc); first | (exfalso; omega) | (exfalso; exact hc trivial) | refine Ev_in ?_))
    | (with_reducible apply W_cond_k; intro _ _ ea eb; (simp only [condK, cob, opnd, constPV, Nat.reduceEqDiff, Nat.reduceLT, ↓reduceIte, hcb, reduceCtorEq, forall_const, ne_eq]); subst ea eb; first | (refine ⟨fun hc => ?_, fun hc => ?_⟩ <;> first | (exfalso; omega) | (exfalso; exact hc trivial) | skip) | skip)
    | (with_reducible apply hnx; clear hnx nx)
    | (with_reducible refine And.intro (by omega) ?_)
    | (with_reducible refine And.intro ?_ ?_)
    | (with_reducible refine pcall_k (d1) ?_; rintro _ _ ⟨rfl, rfl⟩ -; refine Ev_in ?_)
    | (with_reducible refine pcall_k (d2) ?_; rintro _ _ ⟨rfl, rfl⟩ -; refine Ev_in ?_)
    | (with_reducible refine pcall_k (d3) ?_; rintro _ _ ⟨rfl, rfl⟩ -; refine Ev_in ?_)
    | (clear hnx nx; with_reducible apply hnx; clear hnx nx)
    | (clear hnx nx; clear hnx nx; with_reducible apply hnx; clear hnx nx))
        all_goals first
          | exact rfl
          | (exfalso
             omega)
          | (refine hlp _ (68 - (c + 1)) _ (by omega) ?_ ⟨c + 1, u, by omega, rfl, hul, rfl⟩
             refine Wk_fr (by simp only [wkb, Nat.reduceEqDiff, Nat.reduceLT, ↓reduceIte]) ?_
             exact Sub_refl (by simp [names]))
      · obtain rfl : c = 68 := by omega
        have hlenP := catF_len (patV_len seed k)
        clear c0 c1 c2 c3 c4 hqg hql t2 t3 t4 t5 ho hl2 tv b1 b2
        repeat' (first
    | (with_reducible apply W_seq_k; intro nx hnx)
    | (with_reducible first | apply W_block | apply W_scope)
    | (with_reducible refine W_prune 261903 ?_; simp only [prb, Nat.reducePow, Nat.reduceDiv, Nat.reduceMod, Nat.reduceBEq]; first | (with_reducible apply W_region_l) | with_reducible refine W_region_draw (id := 14) 3 (.op 0 true (.op 1 true (.op 2 true (.op 3 true (.op 4 true (.op 5 true (.op 6 true (.op 7 true (.op 8 true (.op 9 true (.op 10 true (.op 11 false (.op 12 false (.op 13 true (.op 14 true (.done)))))))))))))))) (by kernel_rfl) ?_)
    | ((first | (with_reducible apply WL_op; intro nx hnx) | with_reducible refine Ev_out ?_ | (with_reducible apply popsD_op; intro nx hnx) | (with_reducible refine popsD_alt ?_ ?_; intro nx hnx) | (with_reducible refine pfresh_k hnm fun nm hnm => ?_; (try simp only [fmb] at hnm)) | (with_reducible refine pborn_mu hnm fun nm hnm => ?_; (try simp only [fmb] at hnm))); try (simp (maxSteps := 2000000) (disch := omega) only [evb, evd, eve, constPV, seqK, blockK, scopeK, pbound, pelems, PV.mem?, PV.one, PV.cells, peqs, peq1, pkeys, List.set, Value.cells, ↓popG_eq, ↓pop.eq_1, ↓List.getElem?_map, ↓List.getElem?_cons_zero, ↓List.getElem?_cons_succ, Value.oneCell', Nat.reduceAdd, Nat.reduceMul, Nat.reduceSub, Nat.reduceLeDiff, Nat.reduceEqDiff, ↓reduceIte, ne_eq, reduceCtorEq, forall_const, exists_and_left, exists_eq_left', eq_self, Nat.reduceLT, Int.reduceLT, Int.reduceLE, Int.reduceToNat, Int.reduceAdd, Int.reduceSub, Int.reduceNeg, hnm, Tryd.tf0, Tryd.tf3, Tryd.tf4, Tryd.tf5, Tryd.tf9, Tryd.tf23, Tryd.tf25, Tryd.tf29, Tryd.tf48, Tryd.tf49, Tryd.tf52, Tryd.call11, Tryd.call17, Tryd.call23, Tryd.call24, Tryd.call30, Tryd.call31, Tryd.call32, Tryd.call33]); repeat (refine And.intro (by omega) ?_))
    | ((with_reducible first | apply WL_nil | apply W_label | apply W_skip | apply W_exit | apply W_ret | apply popsD_done); try simp only [seqK, blockK, scopeK, ↓reduceIte, Nat.reduceEqDiff])
    | with_reducible exact popsD_stop
    | (with_reducible apply pguard_intro <;> (intro hc; (try simp only [hcb, reduceCtorEq, forall_const, ne_eq] at hc); first | (exfalso; omega) | (exfalso; exact hc trivial) | refine Ev_in ?_))
    | (with_reducible apply W_cond_k; intro _ _ ea eb; (simp only [condK, cob, opnd, constPV, Nat.reduceEqDiff, Nat.reduceLT, ↓reduceIte, hcb, reduceCtorEq, forall_const, ne_eq]); subst ea eb; first | (refine ⟨fun hc => ?_, fun hc => ?_⟩ <;> first | (exfalso; omega) | (exfalso; exact hc trivial) | skip) | skip)
    | (with_reducible apply hnx; clear hnx nx)
    | (with_reducible refine And.intro (by omega) ?_)
    | (with_reducible refine And.intro ?_ ?_)
    | (clear hnx nx; with_reducible apply hnx; clear hnx nx)
    | (clear hnx nx; clear hnx nx; with_reducible apply hnx; clear hnx nx))
        refine W_loop_k (fun z τ => ∃ (l : Nat) (u : List UInt8), l ≤ h ∧ z = h - l ∧ u = s ++ catF (patV seed k) l ∧
            τ = ⟨fr 94 [(16, pint .i64 l), (15, pint .i64 (k / 2 ^ l : Nat)), (13, pstr u), (11, .list 1 (tbC seed h (h + 1))), (1, pint .i64 h)], []⟩) h
          ⟨fr 94 [(16, pint .i64 (0 : Nat)), (15, pint .i64 (k : Nat)), (13, pstr s), (11, .list 1 (tbC seed h (h + 1))), (1, pint .i64 h)], []⟩ (by
          refine Wk_fr (by simp only [wkb, Nat.reduceEqDiff, Nat.reduceLT, ↓reduceIte]) ?_
          exact Sub_refl (by simp [names])) ⟨0, s, by omega, by omega, by rw [catF_zero, List.append_nil], by rw [Nat.pow_zero, Nat.div_one]⟩ ?_
        rintro z τ ⟨l, u, hl, rfl, hul, rfl⟩ lp2 hlp2
        have hulen : u.length ≤ 9 + 16 * 68 + 16 * l := by rw [hul, List.length_append, hlenP]; omega
        by_cases hlh : l < h
        · obtain ⟨V, hV⟩ : ∃ V, V = 2 ^ (h - (l + 1)) := ⟨_, rfl⟩
          have hVw : 2 ^ (h - l) = 2 * V := by rw [hV, show h - l = (h - (l + 1)) + 1 by omega, Nat.pow_succ, Nat.mul_comm]
          have hV64 : V ≤ 64 := by rw [hV]; exact pow_le64 _ (by omega)
          have hcur : k / 2 ^ l < 2 * V := by
            rw [Nat.div_lt_iff_lt_mul (Nat.pow_pos (by omega)), ← hVw, ← Nat.pow_add, show h - l + l = h by omega, ← hw]
            exact hkw
          have hq2' : k / 2 ^ (l + 1) = k / 2 ^ l / 2 := by rw [Nat.div_div_eq_div_mul, ← Nat.pow_succ]
          have t2 := tbC_get seed h (h + 1) l (by omega)
          rw [hVw] at t2
          have t5 : (tbC seed h (h + 1)).getD l PV.junk = .list 16 ((lvD seed l (2 * V)).map pdg) := by rw [List.getD_eq_getElem?_getD, t2]; rfl
          have t4 : ((lvD seed l (2 * V)).map pdg).length = 2 * V := by rw [List.length_map, lvD_len]
          have hsu := catF_succ (patV seed k) l
          have hpv : patV seed k l = nodeV seed l (sib (k / 2 ^ l)) := rfl
          rw [hpv] at hsu
          generalize hcr : k / 2 ^ l = r at *
          have hsb : sib r < 2 * V := by unfold sib; split <;> omega
          have g1 : ((lvD seed l (2 * V)).map pdg)[sib r]? = some (pdg (nodeV seed l (sib r))) := by
            rw [List.getElem?_map, lvD_get _ _ _ _ hsb]
            rfl
          have g3 : ((lvD seed l (2 * V)).map pdg).getD (sib r) PV.junk = .agg ((nodeV seed l (sib r)).map pbyte) := by rw [List.getD_eq_getElem?_getD, g1]; rfl
          have hvl := nodeV_len seed l (sib r)
          have d3 := text_c G (nodeV seed l (sib r)) hvl
          obtain ⟨y, hy⟩ : ∃ y, y = u ++ nodeV seed l (sib r) := ⟨_, rfl⟩
          have hyu : y = s ++ catF (patV seed k) (l + 1) := by rw [hy, hul, hsu, List.append_assoc]
          generalize nodeV seed l (sib r) = v at *
          have ho := all_one_byte v
          have hl2 : (v.map pbyte).length = 16 := by rw [List.length_map, hvl]
          have tv : List.take 16 (v.map pbyte) = v.map pbyte := List.take_of_length_le (by omega)
          have e1 : Int.tmod (r : Int) 2 = ((r % 2 : Nat) : Int) := by
            rw [Int.tmod_eq_emod_of_nonneg (by omega)]
            omega
          have e2 : Int.tdiv (r : Int) 2 = ((r / 2 : Nat) : Int) := by
            rw [Int.tdiv_eq_ediv_of_nonneg (by omega)]
            omega
          by_cases hodd : r % 2 = 1
          · have e3 : (r : Int) - 1 = ((sib r : Nat) : Int) := by rw [sib, if_pos hodd]; omega
            rw [hodd] at e1
            repeat' (first
    | (with_reducible apply W_seq_k; intro nx hnx)
    | (with_reducible first | apply W_block | apply W_scope)
    | (with_reducible refine W_prune 261903 ?_; simp only [prb, Nat.reducePow, Nat.reduceDiv, Nat.reduceMod, Nat.reduceBEq]; first | (with_reducible apply W_region_l) | with_reducible refine W_region_draw (id := 14) 3 (.op 0 true (.op 1 true (.op 2 true (.op 3 true (.op 4 true (.op 5 true (.op 6 true (.op 7 true (.op 8 true (.op 9 true (.op 10 true (.op 11 false (.op 12 false (.op 13 true (.op 14 true (.done)))))))))))))))) (by kernel_rfl) ?_)
    | ((first | (with_reducible apply WL_op; intro nx hnx) | with_reducible refine Ev_out ?_ | (with_reducible apply popsD_op; intro nx hnx) | (with_reducible refine popsD_alt ?_ ?_; intro nx hnx) | (with_reducible refine pfresh_k hnm fun nm hnm => ?_; (try simp only [fmb] at hnm)) | (with_reducible refine pborn_mu hnm fun nm hnm => ?_; (try simp only [fmb] at hnm))); try (simp (maxSteps := 2000000) (disch := omega) only [evb, evd, eve, constPV, seqK, blockK, scopeK, pbound, pelems, PV.mem?, PV.one, PV.cells, peqs, peq1, pkeys, List.set, Value.cells, ↓popG_eq, ↓pop.eq_1, ↓List.getElem?_map, ↓List.getElem?_cons_zero, ↓List.getElem?_cons_succ, Value.oneCell', Nat.reduceAdd, Nat.reduceMul, Nat.reduceSub, Nat.reduceLeDiff, Nat.reduceEqDiff, ↓reduceIte, ne_eq, reduceCtorEq, forall_const, exists_and_left, exists_eq_left', eq_self, Nat.reduceLT, Int.reduceLT, Int.reduceLE, Int.reduceToNat, Int.reduceAdd, Int.reduceSub, Int.reduceNeg, hnm, Tryd.tf0, Tryd.tf3, Tryd.tf4, Tryd.tf5, Tryd.tf9, Tryd.tf23, Tryd.tf25, Tryd.tf29, Tryd.tf48, Tryd.tf49, Tryd.tf52, Tryd.call11, Tryd.call17, Tryd.call23, Tryd.call24, Tryd.call30, Tryd.call31, Tryd.call32, Tryd.call33, ← hy, hlh, t1, t2, t4, t5, g1, g3, ho, hl2, tv, e1, e2, e3, hvl, hulen]); repeat (refine And.intro (by omega) ?_))
    | ((with_reducible first | apply WL_nil | apply W_label | apply W_skip | apply W_exit | apply W_ret | apply popsD_done); try simp only [seqK, blockK, scopeK, ↓reduceIte, Nat.reduceEqDiff])
    | with_reducible exact popsD_stop
    | (with_reducible apply pguard_intro <;> (intro hc; (try simp only [hcb, reduceCtorEq, forall_const, ne_eq] at hc); first | (exfalso; omega) | (exfalso; exact hc trivial) | refine Ev_in ?_))
    | (with_reducible apply W_cond_k; intro _ _ ea eb; (simp only [condK, cob, opnd, constPV, Nat.reduceEqDiff, Nat.reduceLT, ↓reduceIte, hcb, reduceCtorEq, forall_const, ne_eq]); subst ea eb; first | (refine ⟨fun hc => ?_, fun hc => ?_⟩ <;> first | (exfalso; omega) | (exfalso; exact hc trivial) | skip) | skip)
    | (with_reducible apply hnx; clear hnx nx)
    | (with_reducible refine And.intro (by omega) ?_)
    | (with_reducible refine And.intro ?_ ?_)
    | (with_reducible refine pcall_k (d3) ?_; rintro _ _ ⟨rfl, rfl⟩ -; refine Ev_in ?_)
    | (clear hnx nx; with_reducible apply hnx; clear hnx nx)
    | (clear hnx nx; clear hnx nx; with_reducible apply hnx; clear hnx nx))
            all_goals first
              | exact rfl
              | (exfalso
                 omega)
              | (refine hlp2 _ (h - (l + 1)) _ (by omega) ?_ ⟨l + 1, y, by omega, rfl, hyu, rfl⟩
                 rw [hq2']
                 refine Wk_fr (by simp only [wkb, Nat.reduceEqDiff, Nat.reduceLT, ↓reduceIte]) ?_
                 exact Sub_refl (by simp [names]))
          · have e3 : (r : Int) + 1 = ((sib r : Nat) : Int) := by rw [sib, if_neg hodd]; omega
            rw [show r % 2 = 0 by omega] at e1
            repeat' (first
    | (with_reducible apply W_seq_k; intro nx hnx)
    | (with_reducible first | apply W_block | apply W_scope)
    | (with_reducible refine W_prune 261903 ?_; simp only [prb, Nat.reducePow, Nat.reduceDiv, Nat.reduceMod, Nat.reduceBEq]; first | (with_reducible apply W_region_l) | with_reducible refine W_region_draw (id := 14) 3 (.op 0 true (.op 1 true (.op 2 true (.op 3 true (.op 4 true (.op 5 true (.op 6 true (.op 7 true (.op 8 true (.op 9 true (.op 10 true (.op 11 false (.op 12 false (.op 13 true (.op 14 true (.done)))))))))))))))) (by kernel_rfl) ?_)
    | ((first | (with_reducible apply WL_op; intro nx hnx) | with_reducible refine Ev_out ?_ | (with_reducible apply popsD_op; intro nx hnx) | (with_reducible refine popsD_alt ?_ ?_; intro nx hnx) | (with_reducible refine pfresh_k hnm fun nm hnm => ?_; (try simp only [fmb] at hnm)) | (with_reducible refine pborn_mu hnm fun nm hnm => ?_; (try simp only [fmb] at hnm))); try (simp (maxSteps := 2000000) (disch := omega) only [evb, evd, eve, constPV, seqK, blockK, scopeK, pbound, pelems, PV.mem?, PV.one, PV.cells, peqs, peq1, pkeys, List.set, Value.cells, ↓popG_eq, ↓pop.eq_1, ↓List.getElem?_map, ↓List.getElem?_cons_zero, ↓List.getElem?_cons_succ, Value.oneCell', Nat.reduceAdd, Nat.reduceMul, Nat.reduceSub, Nat.reduceLeDiff, Nat.reduceEqDiff, ↓reduceIte, ne_eq, reduceCtorEq, forall_const, exists_and_left, exists_eq_left', eq_self, Nat.reduceLT, Int.reduceLT, Int.reduceLE, Int.reduceToNat, Int.reduceAdd, Int.reduceSub, Int.reduceNeg, hnm, Tryd.tf0, Tryd.tf3, Tryd.tf4, Tryd.tf5, Tryd.tf9, Tryd.tf23, Tryd.tf25, Tryd.tf29, Tryd.tf48, Tryd.tf49, Tryd.tf52, Tryd.call11, Tryd.call17, Tryd.call23, Tryd.call24, Tryd.call30, Tryd.call31, Tryd.call32, Tryd.call33, ← hy, hlh, t1, t2, t4, t5, g1, g3, ho, hl2, tv, e1, e2, e3, hvl, hulen]); repeat (refine And.intro (by omega) ?_))
    | ((with_reducible first | apply WL_nil | apply W_label | apply W_skip | apply W_exit | apply W_ret | apply popsD_done); try simp only [seqK, blockK, scopeK, ↓reduceIte, Nat.reduceEqDiff])
    | with_reducible exact popsD_stop
    | (with_reducible apply pguard_intro <;> (intro hc; (try simp only [hcb, reduceCtorEq, forall_const, ne_eq] at hc); first | (exfalso; omega) | (exfalso; exact hc trivial) | refine Ev_in ?_))
    | (with_reducible apply W_cond_k; intro _ _ ea eb; (simp only [condK, cob, opnd, constPV, Nat.reduceEqDiff, Nat.reduceLT, ↓reduceIte, hcb, reduceCtorEq, forall_const, ne_eq]); subst ea eb; first | (refine ⟨fun hc => ?_, fun hc => ?_⟩ <;> first | (exfalso; omega) | (exfalso; exact hc trivial) | skip) | skip)
    | (with_reducible apply hnx; clear hnx nx)
    | (with_reducible refine And.intro (by omega) ?_)
    | (with_reducible refine And.intro ?_ ?_)
    | (with_reducible refine pcall_k (d3) ?_; rintro _ _ ⟨rfl, rfl⟩ -; refine Ev_in ?_)
    | (clear hnx nx; with_reducible apply hnx; clear hnx nx)
    | (clear hnx nx; clear hnx nx; with_reducible apply hnx; clear hnx nx))
            all_goals first
              | exact rfl
              | (exfalso
                 omega)
              | (refine hlp2 _ (h - (l + 1)) _ (by omega) ?_ ⟨l + 1, y, by omega, rfl, hyu, rfl⟩
                 rw [hq2']
                 refine Wk_fr (by simp only [wkb, Nat.reduceEqDiff, Nat.reduceLT, ↓reduceIte]) ?_
                 exact Sub_refl (by simp [names]))
        · obtain rfl : l = h := by omega
          have hS : u = S := by rw [hul, hsc, hsig]
          repeat' (first
    | (with_reducible apply W_seq_k; intro nx hnx)
    | (with_reducible first | apply W_block | apply W_scope)
    | (with_reducible refine W_prune 261903 ?_; simp only [prb, Nat.reducePow, Nat.reduceDiv, Nat.reduceMod, Nat.reduceBEq]; first | (with_reducible apply W_region_l) | with_reducible refine W_region_draw (id := 14) 3 (.op 0 true (.op 1 true (.op 2 true (.op 3 true (.op 4 true (.op 5 true (.op 6 true (.op 7 true (.op 8 true (.op 9 true (.op 10 true (.op 11 false (.op 12 false (.op 13 true (.op 14 true (.done)))))))))))))))) (by kernel_rfl) ?_)
    | ((first | (with_reducible apply WL_op; intro nx hnx) | with_reducible refine Ev_out ?_ | (with_reducible apply popsD_op; intro nx hnx) | (with_reducible refine popsD_alt ?_ ?_; intro nx hnx) | (with_reducible refine pfresh_k hnm fun nm hnm => ?_; (try simp only [fmb] at hnm)) | (with_reducible refine pborn_mu hnm fun nm hnm => ?_; (try simp only [fmb] at hnm))); try (simp (maxSteps := 2000000) (disch := omega) only [evb, evd, eve, constPV, seqK, blockK, scopeK, pbound, pelems, PV.mem?, PV.one, PV.cells, peqs, peq1, pkeys, List.set, Value.cells, ↓popG_eq, ↓pop.eq_1, ↓List.getElem?_map, ↓List.getElem?_cons_zero, ↓List.getElem?_cons_succ, Value.oneCell', Nat.reduceAdd, Nat.reduceMul, Nat.reduceSub, Nat.reduceLeDiff, Nat.reduceEqDiff, ↓reduceIte, ne_eq, reduceCtorEq, forall_const, exists_and_left, exists_eq_left', eq_self, Nat.reduceLT, Int.reduceLT, Int.reduceLE, Int.reduceToNat, Int.reduceAdd, Int.reduceSub, Int.reduceNeg, hnm, Tryd.tf0, Tryd.tf3, Tryd.tf4, Tryd.tf5, Tryd.tf9, Tryd.tf23, Tryd.tf25, Tryd.tf29, Tryd.tf48, Tryd.tf49, Tryd.tf52, Tryd.call11, Tryd.call17, Tryd.call23, Tryd.call24, Tryd.call30, Tryd.call31, Tryd.call32, Tryd.call33]); repeat (refine And.intro (by omega) ?_))
    | ((with_reducible first | apply WL_nil | apply W_label | apply W_skip | apply W_exit | apply W_ret | apply popsD_done); try simp only [seqK, blockK, scopeK, ↓reduceIte, Nat.reduceEqDiff])
    | with_reducible exact popsD_stop
    | (with_reducible apply pguard_intro <;> (intro hc; (try simp only [hcb, reduceCtorEq, forall_const, ne_eq] at hc); first | (exfalso; omega) | (exfalso; exact hc trivial) | refine Ev_in ?_))
    | (with_reducible apply W_cond_k; intro _ _ ea eb; (simp only [condK, cob, opnd, constPV, Nat.reduceEqDiff, Nat.reduceLT, ↓reduceIte, hcb, reduceCtorEq, forall_const, ne_eq]); subst ea eb; first | (refine ⟨fun hc => ?_, fun hc => ?_⟩ <;> first | (exfalso; omega) | (exfalso; exact hc trivial) | skip) | skip)
    | (with_reducible apply hnx; clear hnx nx)
    | (with_reducible refine And.intro (by omega) ?_)
    | (with_reducible refine And.intro ?_ ?_)
    | (clear hnx nx; with_reducible apply hnx; clear hnx nx)
    | (clear hnx nx; clear hnx nx; with_reducible apply hnx; clear hnx nx))
          all_goals first
            | exact rfl
            | (exfalso
               omega)
            | (rw [hS]
               (refine hfin _ _ (Fin_ret2 rfl rfl (Sub_nil _) ?_); simp only [List.getD_cons_zero, List.getD_cons_succ, fr_getD_cons, fr_getD_nil, Nat.reduceEqDiff, Nat.reduceLT, ↓reduceIte]; first | trivial | exact ⟨rfl, by trivial⟩ | (simp; done) | (simp; omega)))
  · have hp : signF seed n i m = ([], 1) := by rw [signF, if_pos hf]
    simp only [hp] at hfin
    rw [decide_eq_false hf] at c0
    repeat' (first
    | (with_reducible apply W_seq_k; intro nx hnx)
    | (with_reducible first | apply W_block | apply W_scope)
    | (with_reducible refine W_prune 261903 ?_; simp only [prb, Nat.reducePow, Nat.reduceDiv, Nat.reduceMod, Nat.reduceBEq]; first | (with_reducible apply W_region_l) | with_reducible refine W_region_draw (id := 14) 3 (.op 0 true (.op 1 true (.op 2 true (.op 3 true (.op 4 true (.op 5 true (.op 6 true (.op 7 true (.op 8 true (.op 9 true (.op 10 true (.op 11 false (.op 12 false (.op 13 true (.op 14 true (.done)))))))))))))))) (by kernel_rfl) ?_)
    | ((first | (with_reducible apply WL_op; intro nx hnx) | with_reducible refine Ev_out ?_ | (with_reducible apply popsD_op; intro nx hnx) | (with_reducible refine popsD_alt ?_ ?_; intro nx hnx) | (with_reducible refine pfresh_k hnm fun nm hnm => ?_; (try simp only [fmb] at hnm)) | (with_reducible refine pborn_mu hnm fun nm hnm => ?_; (try simp only [fmb] at hnm))); try (simp (maxSteps := 2000000) (disch := omega) only [evb, evd, eve, constPV, seqK, blockK, scopeK, pbound, pelems, PV.mem?, PV.one, PV.cells, peqs, peq1, pkeys, List.set, Value.cells, ↓popG_eq, ↓pop.eq_1, ↓List.getElem?_map, ↓List.getElem?_cons_zero, ↓List.getElem?_cons_succ, Value.oneCell', Nat.reduceAdd, Nat.reduceMul, Nat.reduceSub, Nat.reduceLeDiff, Nat.reduceEqDiff, ↓reduceIte, ne_eq, reduceCtorEq, forall_const, exists_and_left, exists_eq_left', eq_self, Nat.reduceLT, Int.reduceLT, Int.reduceLE, Int.reduceToNat, Int.reduceAdd, Int.reduceSub, Int.reduceNeg, hnm, Tryd.tf0, Tryd.tf3, Tryd.tf4, Tryd.tf5, Tryd.tf9, Tryd.tf23, Tryd.tf25, Tryd.tf29, Tryd.tf48, Tryd.tf49, Tryd.tf52, Tryd.call11, Tryd.call17, Tryd.call23, Tryd.call24, Tryd.call30, Tryd.call31, Tryd.call32, Tryd.call33]); repeat (refine And.intro (by omega) ?_))
    | ((with_reducible first | apply WL_nil | apply W_label | apply W_skip | apply W_exit | apply W_ret | apply popsD_done); try simp only [seqK, blockK, scopeK, ↓reduceIte, Nat.reduceEqDiff])
    | with_reducible exact popsD_stop
    | (with_reducible apply pguard_intro <;> (intro hc; (try simp only [hcb, reduceCtorEq, forall_const, ne_eq] at hc); first | (exfalso; omega) | (exfalso; exact hc trivial) | refine Ev_in ?_))
    | (with_reducible apply W_cond_k; intro _ _ ea eb; (simp only [condK, cob, opnd, constPV, Nat.reduceEqDiff, Nat.reduceLT, ↓reduceIte, hcb, reduceCtorEq, forall_const, ne_eq]); subst ea eb; first | (refine ⟨fun hc => ?_, fun hc => ?_⟩ <;> first | (exfalso; omega) | (exfalso; exact hc trivial) | skip) | skip)
    | (with_reducible apply hnx; clear hnx nx)
    | (with_reducible refine And.intro (by omega) ?_)
    | (with_reducible refine And.intro ?_ ?_)
    | (with_reducible refine pcall_k (c0) ?_; rintro _ _ ⟨rfl, rfl⟩ -; refine Ev_in ?_)
    | (clear hnx nx; with_reducible apply hnx; clear hnx nx)
    | (clear hnx nx; clear hnx nx; with_reducible apply hnx; clear hnx nx))
    all_goals first
      | exact rfl
      | (exfalso
         omega)
      | (refine hfin _ _ (Fin_ret2 rfl rfl (Sub_nil _) ?_); simp only [List.getD_cons_zero, List.getD_cons_succ, fr_getD_cons, fr_getD_nil, Nat.reduceEqDiff, Nat.reduceLT, ↓reduceIte]; first | trivial | exact ⟨rfl, by trivial⟩ | (simp; done) | (simp; omega))
end Go.PM

namespace Go.PM
open Go.Proofs
/-- A digest out of a signature's rest. -/
def restV (rest : List UInt8) (k : Nat) : List UInt8 := (rest.drop (16 * k)).take 16
theorem restV_len {rest : List UInt8} {n k : Nat} (h : rest.length = n * 16) (hk : k < n) : (restV rest k).length = 16 := by
  rw [restV, List.length_take, List.length_drop, h]
  have : k + 1 ≤ n := hk
  have := Nat.mul_le_mul_right 16 this
  omega
/-- The top of a chain, from where the signature has it. -/
def vfV (i : Int) (dg : List Nat) (rest : List UInt8) (c : Nat) : List UInt8 := advF i c (dg.getD c 0 : Nat) (3 - (dg.getD c 0 : Nat) : Int).toNat (restV rest c)
/-- The way from a leaf to the root. -/
def wayF (rest : List UInt8) (i : Nat) (v : List UInt8) : Nat → List UInt8
  | 0 => v
  | l + 1 => if (i / 2 ^ l) % 2 = 1 then nodeF (restV rest (68 + l)) (wayF rest i v l) else nodeF (wayF rest i v l) (restV rest (68 + l))
theorem wayF_len (rest : List UInt8) (i : Nat) (v : List UInt8) (hv : v.length = 16) : ∀ l, (wayF rest i v l).length = 16
  | 0 => hv
  | l + 1 => by
    rw [wayF]
    split <;> exact nodeF_len _ _
/-- The root that a signature leads to. -/
def rootF (p : List UInt8) (h i : Nat) (m rest : List UInt8) : List UInt8 := wayF rest i (leafF (vfV i (digF (digestF p i m)) rest)) h
/-- What Verify answers. -/
def verF (p : List UInt8) (n : Int) (m s : List UInt8) : Int × Int :=
  if ¬ (0 ≤ n ∧ n ≤ 6) then (0, 1) else if (gI s).2.2 ≠ 0 then (0, (gI s).2.2) else
  if (gI s).1 < 0 ∨ 2 ^ n.toNat ≤ (gI s).1 ∨ (s.drop (gI s).2.1).length ≠ (68 + n.toNat) * 16 then (0, 2) else
  if rootF p n.toNat (gI s).1.toNat m (s.drop (gI s).2.1) = p then ((gI s).1, 0) else (0, 10)
/-- A signature that is made leads to the root of the tree. -/
theorem advF_adv (i c : Int) : ∀ (a b : Nat) (t : Int) (v : List UInt8), advF i c (t + a) b (advF i c t a v) = advF i c t (a + b) v
  | 0, b, t, v => by
    rw [advF, Nat.zero_add]
    congr 1
    omega
  | a + 1, b, t, v => by
    rw [show a + 1 + b = (a + b) + 1 by omega, advF, advF, ← advF_adv i c a b (t + 1) (stepC i c t v)]
    congr 1
    omega
end Go.PM

namespace Go.PM
open Go.Proofs
attribute [local irreducible] W PCalls pcall pcallI WL
set_option maxRecDepth 100000 in
set_option maxHeartbeats 8000000 in
theorem value_c (G : Globs) (r : List UInt8) (n : Nat) (hr : r.length = n * 16) (hn : n ≤ 1000) (k : Nat) (hk : k < n) :
    PCalls Tryd.prog G 37 [pint .i64 k, .iptr [.list 1 (r.map pbyte)] 0] [] (fun res H => res = .agg ((restV r k).map pbyte) ∧ H = []) := by
  have hvl := restV_len hr hk
  have e1 : List.drop (16 * k) (List.take (16 * (k + 1)) (r.map pbyte)) = (restV r k).map pbyte := by
    rw [restV, List.map_take, List.map_drop, List.drop_take, show 16 * (k + 1) - 16 * k = 16 by omega]
  have hml : (r.map pbyte).length = n * 16 := by rw [List.length_map, hr]
  generalize restV r k = x at *
  have hxl : (x.map pbyte).length = 16 := by rw [List.length_map, hvl]
  have tx : List.take 16 (x.map pbyte) = x.map pbyte := List.take_of_length_le (by omega)
  have hxo := all_one_byte x
  have f1 : ((k : Int) * 16).toNat = 16 * k := by omega
  have f2 : (((k : Int) + 1) * 16).toNat = 16 * (k + 1) := by omega
  (refine PCalls_f Tryd.func37 rfl Tryd.ntmps37 Tryd.results37 (by simp) fun fin hfin => ?_; have hnm : True := trivial; simp (maxSteps := 2000000) (disch := omega) only [evb, evd, eve, constPV, seqK, blockK, scopeK, pbound, pelems, PV.mem?, PV.one, PV.cells, peqs, peq1, pkeys, List.set, Value.cells, ↓popG_eq, ↓pop.eq_1, ↓List.getElem?_map, ↓List.getElem?_cons_zero, ↓List.getElem?_cons_succ, Value.oneCell', Nat.reduceAdd, Nat.reduceMul, Nat.reduceSub, Nat.reduceLeDiff, Nat.reduceEqDiff, ↓reduceIte, ne_eq, reduceCtorEq, forall_const, exists_and_left, exists_eq_left', eq_self, Nat.reduceLT, Int.reduceLT, Int.reduceLE, Int.reduceToNat, Int.reduceAdd, Int.reduceSub, Int.reduceNeg, hnm, Tryd.tf0, Tryd.tf3, Tryd.tf5, Tryd.tf23, Tryd.tf52])
  repeat' (first
    | (with_reducible apply W_seq_k; intro nx hnx)
    | (with_reducible first | apply W_block | apply W_scope)
    | (with_reducible refine W_prune 11 ?_; simp only [prb, Nat.reducePow, Nat.reduceDiv, Nat.reduceMod, Nat.reduceBEq]; with_reducible apply W_region_l)
    | ((first | (with_reducible apply WL_op; intro nx hnx) | with_reducible refine Ev_out ?_ | (with_reducible refine pfresh_k hnm fun nm hnm => ?_; (try simp only [fmb] at hnm)) | (with_reducible refine pborn_mu hnm fun nm hnm => ?_; (try simp only [fmb] at hnm))); try (simp (maxSteps := 2000000) (disch := omega) only [evb, evd, eve, constPV, seqK, blockK, scopeK, pbound, pelems, PV.mem?, PV.one, PV.cells, peqs, peq1, pkeys, List.set, Value.cells, ↓popG_eq, ↓pop.eq_1, ↓List.getElem?_map, ↓List.getElem?_cons_zero, ↓List.getElem?_cons_succ, Value.oneCell', Nat.reduceAdd, Nat.reduceMul, Nat.reduceSub, Nat.reduceLeDiff, Nat.reduceEqDiff, ↓reduceIte, ne_eq, reduceCtorEq, forall_const, exists_and_left, exists_eq_left', eq_self, Nat.reduceLT, Int.reduceLT, Int.reduceLE, Int.reduceToNat, Int.reduceAdd, Int.reduceSub, Int.reduceNeg, hnm, Tryd.tf0, Tryd.tf3, Tryd.tf5, Tryd.tf23, Tryd.tf52, hml, hxl, tx, hxo, e1, f1, f2, flat_pb]); repeat (refine And.intro (by omega) ?_))
    | ((with_reducible first | apply WL_nil | apply W_label | apply W_skip | apply W_exit | apply W_ret); try simp only [seqK, blockK, scopeK, ↓reduceIte, Nat.reduceEqDiff])
    | (with_reducible apply W_cond_k; intro _ _ ea eb; (simp only [condK, cob, opnd, constPV, Nat.reduceEqDiff, Nat.reduceLT, ↓reduceIte, hcb, reduceCtorEq, forall_const, ne_eq]); subst ea eb; first | (refine ⟨fun hc => ?_, fun hc => ?_⟩ <;> first | (exfalso; omega) | (exfalso; exact hc trivial) | skip) | skip)
    | (with_reducible apply hnx; clear hnx nx)
    | (with_reducible refine And.intro (by omega) ?_)
    | (with_reducible refine And.intro ?_ ?_)
    | (clear hnx nx; with_reducible apply hnx; clear hnx nx)
    | (clear hnx nx; clear hnx nx; with_reducible apply hnx; clear hnx nx))
  all_goals first
    | exact rfl
    | (exfalso
       omega)
    | (refine hfin _ _ ?_
       exact Fin_dig (n := nm) (by simp only [fr_getD_cons, Nat.reduceEqDiff, Nat.reduceLT, ↓reduceIte]) (by simp [look, hnm]) hvl ⟨rfl, rfl⟩)
set_option maxRecDepth 100000 in
set_option maxHeartbeats 8000000 in
theorem chain_c (G : Globs) (hG : G 1 = .iptr (KS.map pw) 0) (r : List UInt8) (n : Nat) (hr : r.length = n * 16) (hn : n ≤ 1000) (hn2 : 68 ≤ n) (k : Int) (hk : inR k) (d : List UInt8) (c : Nat) (hc : c < 68) :
    PCalls Tryd.prog G 39 [pint .i64 c, .iptr [pint .i64 k] 0, .iptr [.list 1 ((digF d).map pn')] 0, .iptr [.func 37 [.iptr [.list 1 (r.map pbyte)] 0]] 0] []
      (fun res H => res = .agg ((vfV k (digF d) r c).map pbyte) ∧ H = []) := by
  have hcR : inR (c : Int) := ⟨by omega, by omega⟩
  have hg := digF_get d c hc
  have hgl := digF_lt d c
  have hqn := digF_len d
  generalize digF d = q at *
  have hg3 : (q.map pn').getD c PV.junk = pint .i64 (q.getD c 0 : Nat) := by rw [List.getD_eq_getElem?_getD, hg]; rfl
  have hq2 : (q.map pn').length = 68 := by rw [List.length_map, hqn]
  have d1 := value_c G r n hr hn c (by omega)
  have d2 := adv_c G hG k c (q.getD c 0 : Nat) 3 (restV r c) hk hcR (by omega) (by omega) (by omega) (by omega) (restV_len hr (by omega))
  rw [show advF k c (q.getD c 0 : Nat) (3 - ((q.getD c 0 : Nat) : Int)).toNat (restV r c) = vfV k q r c from rfl] at d2
  have hvl : (vfV k q r c).length = 16 := advF_len _ _ _ _ _ (restV_len hr (by omega))
  generalize vfV k q r c = x at *
  generalize restV r c = y0 at *
  generalize q.getD c 0 = x0 at *
  have hxl : (x.map pbyte).length = 16 := by rw [List.length_map, hvl]
  have tx : List.take 16 (x.map pbyte) = x.map pbyte := List.take_of_length_le (by omega)
  have hxo := all_one_byte x
  have hca : callable Tryd.prog 37 = true := by kernel_rfl
  (refine PCalls_f Tryd.func39 rfl Tryd.ntmps39 Tryd.results39 (by simp) fun fin hfin => ?_; have hnm : True := trivial; simp (maxSteps := 2000000) (disch := omega) only [evb, evd, eve, constPV, seqK, blockK, scopeK, pbound, pelems, PV.mem?, PV.one, PV.cells, peqs, peq1, pkeys, List.set, Value.cells, ↓popG_eq, ↓pop.eq_1, ↓List.getElem?_map, ↓List.getElem?_cons_zero, ↓List.getElem?_cons_succ, Value.oneCell', Nat.reduceAdd, Nat.reduceMul, Nat.reduceSub, Nat.reduceLeDiff, Nat.reduceEqDiff, ↓reduceIte, ne_eq, reduceCtorEq, forall_const, exists_and_left, exists_eq_left', eq_self, Nat.reduceLT, Int.reduceLT, Int.reduceLE, Int.reduceToNat, Int.reduceAdd, Int.reduceSub, Int.reduceNeg, hnm, Tryd.tf0, Tryd.tf3, Tryd.tf5, Tryd.tf23, Tryd.tf25, Tryd.tf69, Tryd.call27])
  repeat' (first
    | (with_reducible apply W_seq_k; intro nx hnx)
    | (with_reducible first | apply W_block | apply W_scope)
    | (with_reducible refine W_prune 47 ?_; simp only [prb, Nat.reducePow, Nat.reduceDiv, Nat.reduceMod, Nat.reduceBEq]; first | (with_reducible apply W_region_l) | with_reducible refine W_region_draw (id := 1) 3 (.op 0 true (.op 1 true (.op 2 true (.op 3 true (.op 4 true (.op 5 true (.op 6 true (.op 7 true (.op 8 true (.op 9 false (.op 10 false (.done)))))))))))) (by kernel_rfl) ?_)
    | ((first | (with_reducible apply WL_op; intro nx hnx) | with_reducible refine Ev_out ?_ | (with_reducible apply popsD_op; intro nx hnx) | (with_reducible refine popsD_alt ?_ ?_; intro nx hnx) | (with_reducible refine pfresh_k hnm fun nm hnm => ?_; (try simp only [fmb] at hnm)) | (with_reducible refine pborn_mu hnm fun nm hnm => ?_; (try simp only [fmb] at hnm))); try (simp (maxSteps := 2000000) (disch := omega) only [evb, evd, eve, constPV, seqK, blockK, scopeK, pbound, pelems, PV.mem?, PV.one, PV.cells, peqs, peq1, pkeys, List.set, Value.cells, ↓popG_eq, ↓pop.eq_1, ↓List.getElem?_map, ↓List.getElem?_cons_zero, ↓List.getElem?_cons_succ, Value.oneCell', Nat.reduceAdd, Nat.reduceMul, Nat.reduceSub, Nat.reduceLeDiff, Nat.reduceEqDiff, ↓reduceIte, ne_eq, reduceCtorEq, forall_const, exists_and_left, exists_eq_left', eq_self, Nat.reduceLT, Int.reduceLT, Int.reduceLE, Int.reduceToNat, Int.reduceAdd, Int.reduceSub, Int.reduceNeg, hnm, Tryd.tf0, Tryd.tf3, Tryd.tf5, Tryd.tf23, Tryd.tf25, Tryd.tf69, Tryd.call27, hca, hg, hg3, hq2, hxl, tx, hxo]); repeat (refine And.intro (by omega) ?_))
    | ((with_reducible first | apply WL_nil | apply W_label | apply W_skip | apply W_exit | apply W_ret | apply popsD_done); try simp only [seqK, blockK, scopeK, ↓reduceIte, Nat.reduceEqDiff])
    | with_reducible exact popsD_stop
    | (with_reducible apply W_cond_k; intro _ _ ea eb; (simp only [condK, cob, opnd, constPV, Nat.reduceEqDiff, Nat.reduceLT, ↓reduceIte, hcb, reduceCtorEq, forall_const, ne_eq]); subst ea eb; first | (refine ⟨fun hc => ?_, fun hc => ?_⟩ <;> first | (exfalso; omega) | (exfalso; exact hc trivial) | skip) | skip)
    | (with_reducible apply hnx; clear hnx nx)
    | (with_reducible refine And.intro (by omega) ?_)
    | (with_reducible refine And.intro ?_ ?_)
    | (with_reducible refine pcall_k (d1) ?_; rintro _ _ ⟨rfl, rfl⟩ -; refine Ev_in ?_)
    | (with_reducible refine pcall_k (d2) ?_; rintro _ _ ⟨rfl, rfl⟩ -; refine Ev_in ?_)
    | (clear hnx nx; with_reducible apply hnx; clear hnx nx)
    | (clear hnx nx; clear hnx nx; with_reducible apply hnx; clear hnx nx))
  all_goals first
    | exact rfl
    | (exfalso
       omega)
    | (refine hfin _ _ ?_
       exact Fin_dig (n := nm) (by simp only [fr_getD_cons, Nat.reduceEqDiff, Nat.reduceLT, ↓reduceIte]) (by simp [look, hnm]) hvl ⟨rfl, rfl⟩)
end Go.PM

namespace Go.PM
open Go.Proofs
attribute [local irreducible] W PCalls pcall pcallI WL
set_option maxRecDepth 100000 in
set_option maxHeartbeats 8000000 in
theorem top_c (G : Globs) (hG : G 1 = .iptr (KS.map pw) 0) (seed : List UInt8) (hs : seed.length ≤ 4000) (k : Int) (hk : inR k) (c : Nat) (hc : c < 68) :
    PCalls Tryd.prog G 45 [pint .i64 c, .iptr [pint .i64 k] 0, .iptr [pstr seed] 0] [] (fun res H => res = .agg ((topF seed k c).map pbyte) ∧ H = []) := by
  have hcR : inR (c : Int) := ⟨by omega, by omega⟩
  have c1 := start_c G hG seed hs k c hk hcR
  have c2 := adv_c G hG k c 0 3 (startF seed k c) hk hcR (by omega) (by omega) (by omega) (by omega) (startF_len _ _ _)
  rw [show advF k c 0 (3 - 0 : Int).toNat (startF seed k c) = topF seed k c from rfl] at c2
  have htl := topF_len seed k c
  generalize topF seed k c = t at *
  generalize startF seed k c = v at *
  have hone := all_one_byte t
  have hl2 : (t.map pbyte).length = 16 := by rw [List.length_map, htl]
  have tk : List.take 16 (t.map pbyte) = t.map pbyte := List.take_of_length_le (by omega)
  (refine PCalls_f Tryd.func45 rfl Tryd.ntmps45 Tryd.results45 (by simp) fun fin hfin => ?_; have hnm : True := trivial; simp (maxSteps := 2000000) (disch := omega) only [evb, evd, eve, constPV, seqK, blockK, scopeK, pbound, pelems, PV.mem?, PV.one, PV.cells, peqs, peq1, pkeys, List.set, Value.cells, ↓popG_eq, ↓pop.eq_1, ↓List.getElem?_map, ↓List.getElem?_cons_zero, ↓List.getElem?_cons_succ, Value.oneCell', Nat.reduceAdd, Nat.reduceMul, Nat.reduceSub, Nat.reduceLeDiff, Nat.reduceEqDiff, ↓reduceIte, ne_eq, reduceCtorEq, forall_const, exists_and_left, exists_eq_left', eq_self, Nat.reduceLT, Int.reduceLT, Int.reduceLE, Int.reduceToNat, Int.reduceAdd, Int.reduceSub, Int.reduceNeg, hnm, Tryd.tf0, Tryd.tf3, Tryd.tf5, Tryd.tf9, Tryd.tf23, Tryd.call27, Tryd.call28])
  repeat' (first
    | (with_reducible apply W_seq_k; intro nx hnx)
    | (with_reducible first | apply W_block | apply W_scope)
    | (with_reducible refine W_prune 23 ?_; simp only [prb, Nat.reducePow, Nat.reduceDiv, Nat.reduceMod, Nat.reduceBEq]; first | (with_reducible apply W_region_l) | with_reducible refine W_region_draw (id := 1) 2 (.op 0 true (.op 1 true (.op 2 true (.op 3 true (.op 4 true (.op 5 true (.op 6 false (.op 7 false (.done))))))))) (by kernel_rfl) ?_)
    | ((first | (with_reducible apply WL_op; intro nx hnx) | with_reducible refine Ev_out ?_ | (with_reducible apply popsD_op; intro nx hnx) | (with_reducible refine popsD_alt ?_ ?_; intro nx hnx) | (with_reducible refine pfresh_k hnm fun nm hnm => ?_; (try simp only [fmb] at hnm)) | (with_reducible refine pborn_mu hnm fun nm hnm => ?_; (try simp only [fmb] at hnm))); try (simp (maxSteps := 2000000) (disch := omega) only [evb, evd, eve, constPV, seqK, blockK, scopeK, pbound, pelems, PV.mem?, PV.one, PV.cells, peqs, peq1, pkeys, List.set, Value.cells, ↓popG_eq, ↓pop.eq_1, ↓List.getElem?_map, ↓List.getElem?_cons_zero, ↓List.getElem?_cons_succ, Value.oneCell', Nat.reduceAdd, Nat.reduceMul, Nat.reduceSub, Nat.reduceLeDiff, Nat.reduceEqDiff, ↓reduceIte, ne_eq, reduceCtorEq, forall_const, exists_and_left, exists_eq_left', eq_self, Nat.reduceLT, Int.reduceLT, Int.reduceLE, Int.reduceToNat, Int.reduceAdd, Int.reduceSub, Int.reduceNeg, hnm, Tryd.tf0, Tryd.tf3, Tryd.tf5, Tryd.tf9, Tryd.tf23, Tryd.call27, Tryd.call28, hone, hl2, tk]); repeat (refine And.intro (by omega) ?_))
    | ((with_reducible first | apply WL_nil | apply W_label | apply W_skip | apply W_exit | apply W_ret | apply popsD_done); try simp only [seqK, blockK, scopeK, ↓reduceIte, Nat.reduceEqDiff])
    | with_reducible exact popsD_stop
    | (with_reducible apply W_cond_k; intro _ _ ea eb; (simp only [condK, cob, opnd, constPV, Nat.reduceEqDiff, Nat.reduceLT, ↓reduceIte, hcb, reduceCtorEq, forall_const, ne_eq]); subst ea eb; first | (refine ⟨fun hc => ?_, fun hc => ?_⟩ <;> first | (exfalso; omega) | (exfalso; exact hc trivial) | skip) | skip)
    | (with_reducible apply hnx; clear hnx nx)
    | (with_reducible refine And.intro (by omega) ?_)
    | (with_reducible refine And.intro ?_ ?_)
    | (with_reducible refine pcall_k (c1) ?_; rintro _ _ ⟨rfl, rfl⟩ -; refine Ev_in ?_)
    | (with_reducible refine pcall_k (c2) ?_; rintro _ _ ⟨rfl, rfl⟩ -; refine Ev_in ?_)
    | (clear hnx nx; with_reducible apply hnx; clear hnx nx)
    | (clear hnx nx; clear hnx nx; with_reducible apply hnx; clear hnx nx))
  all_goals first
    | exact rfl
    | (exfalso
       omega)
    | (refine hfin _ _ ?_
       exact Fin_dig (n := nm) (by simp only [fr_getD_cons, Nat.reduceEqDiff, Nat.reduceLT, ↓reduceIte]) (by simp [look, hnm]) htl ⟨rfl, rfl⟩)
theorem Fin_digH {x : Tmp} {n : Int} {f : List UInt8} {R : PV → Heap → Prop} {σ : PState} {H : Heap} (hx : σ.frame.getD x .junk = .ptr n 0) (hl : look σ.heap n = some ⟨23, false, 0, f.map pbyte⟩) (hf : f.length = 16)
    (h2 : Sub H σ.heap) (h3 : R (.agg (f.map pbyte)) H) : Fin Tryd.prog [.cell x 23] R .ret σ := by
  have hone := all_one_byte f
  have htk : List.take 16 (f.map pbyte) = f.map pbyte := List.take_of_length_le (by rw [List.length_map]; omega)
  refine Fin_cell (res := .agg (f.map pbyte)) Tryd.tf23 (n := n) (off := 0) (o := ⟨23, false, 0, f.map pbyte⟩) hx hl ?_ h2 h3
  simp [pload, hf, htk, hone]
/-- The key of a node. -/
@[reducible] def keyV (l k : Nat) : Value := .agg #[.int .i64 l, .int .i64 k]
/-- The cells of the memory of nodes. -/
def memC (seed : List UInt8) (T : List (Nat × Nat)) : List PV := T.map fun x => .ent (.val (keyV x.1 x.2)) (.agg ((nodeV seed x.1 x.2).map pbyte))
theorem vsame_key (l k l' k' : Nat) : vsame (keyV l k) (keyV l' k') = some (decide ((l, k) = (l', k'))) := by
  simp only [vsame, keyV, List.toList_toArray, vsames, if_true, Option.some.injEq, Bool.and_true]
  rw [Bool.eq_iff_iff]
  simp only [Bool.and_eq_true, beq_iff_eq, decide_eq_true_eq, Prod.mk.injEq]
  omega
theorem mfind_mem (seed : List UInt8) (l k : Nat) : ∀ (T : List (Nat × Nat)) (i : Nat), (l, k) ∈ T → ∃ j, mfind (keyV l k) (memC seed T) i = some (some (i + j, .agg ((nodeV seed l k).map pbyte))) ∧ T[j]? = some (l, k)
  | [], _, h => absurd h (by simp)
  | x :: T, i, h => by
    obtain ⟨l', k'⟩ := x
    by_cases hx : (l, k) = (l', k')
    · cases hx
      refine ⟨0, ?_, rfl⟩
      simp only [memC, List.map_cons, mfind, vsame_key, decide_true, Nat.add_zero]
    · obtain ⟨j, h1, h2⟩ := mfind_mem seed l k T (i + 1) (by
        rcases List.mem_cons.1 h with h | h
        · exact absurd h hx
        · exact h)
      refine ⟨j + 1, ?_, by simpa using h2⟩
      simp only [memC, List.map_cons, mfind, vsame_key, decide_eq_false hx]
      rw [show i + (j + 1) = i + 1 + j by omega]
      exact h1
theorem mfind_not (seed : List UInt8) (l k : Nat) : ∀ (T : List (Nat × Nat)) (i : Nat), (l, k) ∉ T → mfind (keyV l k) (memC seed T) i = some none
  | [], _, _ => rfl
  | x :: T, i, h => by
    obtain ⟨l', k'⟩ := x
    have hx : ¬ (l, k) = (l', k') := fun e => h (e ▸ .head _)
    have ih := mfind_not seed l k T (i + 1) fun e => h (.tail _ e)
    simp only [memC, List.map_cons, mfind, vsame_key, decide_eq_false hx]
    exact ih
theorem memC_set (seed : List UInt8) (l k j : Nat) (T : List (Nat × Nat)) (h : T[j]? = some (l, k)) : (memC seed T).set j (.ent (.val (keyV l k)) (.agg ((nodeV seed l k).map pbyte))) = memC seed T := by
  refine List.ext_getElem? fun i => ?_
  rw [List.getElem?_set]
  split
  · rename_i e
    subst e
    have hj : (memC seed T)[j]? = some (.ent (.val (keyV l k)) (.agg ((nodeV seed l k).map pbyte))) := by simp [memC, h]
    have : j < (memC seed T).length := by
      rcases Nat.lt_or_ge j (memC seed T).length with h1 | h1
      · exact h1
      · rw [List.getElem?_eq_none h1] at hj
        cases hj
    rw [if_pos this, hj]
  · rfl
theorem memC_app (seed : List UInt8) (l k : Nat) (T : List (Nat × Nat)) : memC seed T ++ [.ent (.val (keyV l k)) (.agg ((nodeV seed l k).map pbyte))] = memC seed (T ++ [(l, k)]) := by
  simp [memC]
/-- What the function that nodes returns works on: itself, the memory, the seed. -/
@[reducible] def HM (a m M s : Int) (seed : List UInt8) (T : List (Nat × Nat)) : Heap :=
  [(a, ⟨45, false, 0, [.func 44 [.ptr m 0, .ptr s 0, .ptr a 0]]⟩), (m, ⟨73, false, 0, [.mp M]⟩), (M, ⟨73, false, 0, memC seed T⟩), (s, ⟨9, false, 0, [pstr seed]⟩)]
section
variable {G : Globs} {I : List Int}
end
end Go.PM

namespace Go.PM
open Go.Proofs
attribute [local irreducible] W PCalls pcall pcallI WL
theorem HM_ne {a m M s : Int} {seed : List UInt8} {T : List (Nat × Nat)} (nd : (names (HM a m M s seed T)).Nodup) :
    (a = m) = False ∧ (m = a) = False ∧ (a = M) = False ∧ (M = a) = False ∧ (a = s) = False ∧ (s = a) = False ∧ (m = M) = False ∧ (M = m) = False ∧ (m = s) = False ∧ (s = m) = False ∧ (M = s) = False ∧ (s = M) = False := by
  simp only [names, List.map_cons, List.map_nil, List.nodup_cons, List.mem_cons, List.not_mem_nil, or_false, not_or] at nd
  obtain ⟨⟨n1, n2, n3⟩, ⟨n4, n5⟩, n6, -⟩ := nd
  exact ⟨eq_false n1, eq_false fun e => n1 e.symm, eq_false n2, eq_false fun e => n2 e.symm, eq_false n3, eq_false fun e => n3 e.symm, eq_false n4, eq_false fun e => n4 e.symm, eq_false n5, eq_false fun e => n5 e.symm, eq_false n6, eq_false fun e => n6 e.symm⟩
/-- What a call of the function must answer. -/
@[reducible] def NRes (a m M s : Int) (seed : List UInt8) (l k : Nat) (res : PV) (H : Heap) : Prop := res = .agg ((nodeV seed l k).map pbyte) ∧ ∃ T', H = HM a m M s seed T'
set_option maxRecDepth 100000 in
set_option maxHeartbeats 8000000 in
theorem node_hit (G : Globs) (seed : List UInt8) (a m M s : Int) (l k : Nat) (T : List (Nat × Nat)) (hm : (l, k) ∈ T) :
    PCalls Tryd.prog G 44 [pint .i64 l, pint .i64 k, .ptr m 0, .ptr s 0, .ptr a 0] (HM a m M s seed T) (NRes a m M s seed l k) := by
  refine PCalls.nd fun nd => ?_
  have hne := HM_ne nd
  have hvl := nodeV_len seed l k
  have hone := all_one_byte (nodeV seed l k)
  have hl2 : ((nodeV seed l k).map pbyte).length = 16 := by rw [List.length_map, hvl]
  have tk : List.take 16 ((nodeV seed l k).map pbyte) = (nodeV seed l k).map pbyte := List.take_of_length_le (by omega)
  obtain ⟨Z, hZ⟩ : ∃ Z, Z = List.replicate 16 (pint .u8 0) := ⟨_, rfl⟩
  have hZ2 : [pint .u8 0, pint .u8 0, pint .u8 0, pint .u8 0, pint .u8 0, pint .u8 0, pint .u8 0, pint .u8 0, pint .u8 0, pint .u8 0, pint .u8 0, pint .u8 0, pint .u8 0, pint .u8 0, pint .u8 0, pint .u8 0] = Z := by rw [hZ]; rfl
  have hZl : Z.length = 16 := by rw [hZ]; rfl
  have hZd : List.drop 16 Z = [] := List.drop_of_length_le (by omega)
  have hZo : Z.all PV.one = true := by rw [hZ]; rfl
  obtain ⟨j, hm1, hm2⟩ := mfind_mem seed l k T 0 hm
  rw [Nat.zero_add] at hm1
  have hfin2 : NRes a m M s seed l k (.agg ((nodeV seed l k).map pbyte)) (HM a m M s seed T) := ⟨rfl, T, rfl⟩
  have hR : ∀ res H, NRes a m M s seed l k res H → NRes a m M s seed l k res H := fun _ _ h => h
  generalize NRes a m M s seed l k = R at *
  generalize nodeV seed l k = x at *
  (refine PCalls_f Tryd.func44 rfl Tryd.ntmps44 Tryd.results44 (by simp) fun fin hfin => ?_; have hnm : True := trivial; simp (maxSteps := 2000000) (disch := omega) only [evb, evd, eve, constPV, seqK, blockK, scopeK, pbound, pelems, PV.mem?, PV.one, PV.cells, peqs, peq1, pkeys, List.set, Value.cells, ↓popG_eq, ↓pop.eq_1, ↓List.getElem?_map, ↓List.getElem?_cons_zero, ↓List.getElem?_cons_succ, Value.oneCell', Nat.reduceAdd, Nat.reduceMul, Nat.reduceSub, Nat.reduceLeDiff, Nat.reduceEqDiff, ↓reduceIte, ne_eq, reduceCtorEq, forall_const, exists_and_left, exists_eq_left', eq_self, Nat.reduceLT, Int.reduceLT, Int.reduceLE, Int.reduceToNat, Int.reduceAdd, Int.reduceSub, Int.reduceNeg, hnm, Tryd.tf0, Tryd.tf1, Tryd.tf3, Tryd.tf4, Tryd.tf5, Tryd.tf23, Tryd.tf28, Tryd.tf45, Tryd.tf69, Tryd.tf73, Tryd.tf74, Tryd.call38, Tryd.call40])
  repeat' (first
    | (with_reducible apply W_seq_k; intro nx hnx)
    | (with_reducible first | apply W_block | apply W_scope)
    | (with_reducible refine W_prune 2015 ?_; simp only [prb, Nat.reducePow, Nat.reduceDiv, Nat.reduceMod, Nat.reduceBEq]; first | (with_reducible apply W_region_l) | with_reducible refine W_region_draw (id := 7) 3 (.op 0 true (.op 1 true (.op 2 true (.op 3 true (.op 4 true (.op 7 true (.op 8 true (.alt 5 false (.alt 6 true (.alt 9 true (.op 10 true (.op 11 true (.op 12 false (.op 13 false (.op 14 false (.done)))))) .stop) (.alt 9 true (.op 10 true (.op 11 true (.alt 6 true (.op 12 false (.op 13 false (.op 14 false (.done)))) .stop))) .stop)) (.alt 6 true (.alt 5 false (.alt 9 true (.op 10 true (.op 11 true (.op 12 false (.op 13 false (.op 14 false (.done)))))) .stop) (.alt 9 true (.op 10 true (.op 11 true (.op 5 false (.op 12 false (.op 13 false (.op 14 false (.done))))))) .stop)) (.alt 9 true (.op 10 true (.op 11 true (.alt 5 false (.alt 6 true (.op 12 false (.op 13 false (.op 14 false (.done)))) .stop) (.alt 6 true (.op 5 false (.op 12 false (.op 13 false (.op 14 false (.done))))) .stop)))) .stop)))))))))) (by kernel_rfl) ?_)
    | ((first | (with_reducible apply WL_op; intro nx hnx) | with_reducible refine Ev_out ?_ | (with_reducible apply popsD_op; intro nx hnx) | (with_reducible refine popsD_alt ?_ ?_; intro nx hnx) | (with_reducible refine pfresh_k hnm fun nm hnm => ?_; (try simp only [fmb] at hnm)) | (with_reducible refine pborn_mu hnm fun nm hnm => ?_; (try simp only [fmb] at hnm))); try (simp (maxSteps := 2000000) (disch := omega) only [evb, evd, eve, constPV, seqK, blockK, scopeK, pbound, pelems, PV.mem?, PV.one, PV.cells, peqs, peq1, pkeys, List.set, Value.cells, ↓popG_eq, ↓pop.eq_1, ↓List.getElem?_map, ↓List.getElem?_cons_zero, ↓List.getElem?_cons_succ, Value.oneCell', Nat.reduceAdd, Nat.reduceMul, Nat.reduceSub, Nat.reduceLeDiff, Nat.reduceEqDiff, ↓reduceIte, ne_eq, reduceCtorEq, forall_const, exists_and_left, exists_eq_left', eq_self, Nat.reduceLT, Int.reduceLT, Int.reduceLE, Int.reduceToNat, Int.reduceAdd, Int.reduceSub, Int.reduceNeg, hnm, Tryd.tf0, Tryd.tf1, Tryd.tf3, Tryd.tf4, Tryd.tf5, Tryd.tf23, Tryd.tf28, Tryd.tf45, Tryd.tf69, Tryd.tf73, Tryd.tf74, Tryd.call38, Tryd.call40, hne, hone, hl2, tk, hm1, hZ2, hZl, hZd, hZo]); repeat (refine And.intro (by omega) ?_))
    | ((with_reducible first | apply WL_nil | apply W_label | apply W_skip | apply W_exit | apply W_ret | apply popsD_done); try simp only [seqK, blockK, scopeK, ↓reduceIte, Nat.reduceEqDiff])
    | with_reducible exact popsD_stop
    | (with_reducible apply W_cond_k; intro _ _ ea eb; (simp only [condK, cob, opnd, constPV, Nat.reduceEqDiff, Nat.reduceLT, ↓reduceIte, hcb, reduceCtorEq, forall_const, ne_eq]); subst ea eb; first | (refine ⟨fun hc => ?_, fun hc => ?_⟩ <;> first | (exfalso; omega) | (exfalso; exact hc trivial) | skip) | skip)
    | (with_reducible apply hnx; clear hnx nx)
    | (with_reducible refine And.intro (by omega) ?_)
    | (with_reducible refine And.intro ?_ ?_)
    | (clear hnx nx; with_reducible apply hnx; clear hnx nx)
    | (clear hnx nx; clear hnx nx; with_reducible apply hnx; clear hnx nx))
  all_goals first
    | exact rfl
    | (exfalso
       omega)
    | (refine hfin _ _ ?_
       exact Fin_digH (n := _) (by simp only [fr_getD_cons, Nat.reduceEqDiff, Nat.reduceLT, ↓reduceIte]; rfl) (by simp [look, hnm]) hvl ⟨by simp, nd⟩ hfin2)
set_option maxRecDepth 100000 in
set_option maxHeartbeats 8000000 in
theorem node_zero (G : Globs) (hG : G 1 = .iptr (KS.map pw) 0) (seed : List UInt8) (hs : seed.length ≤ 4000) (a m M s : Int) (k : Nat) (hk : k ≤ 1000000) (T : List (Nat × Nat)) (hm : (0, k) ∉ T) :
    PCalls Tryd.prog G 44 [pint .i64 (0 : Nat), pint .i64 k, .ptr m 0, .ptr s 0, .ptr a 0] (HM a m M s seed T) (NRes a m M s seed 0 k) := by
  refine PCalls.nd fun nd => ?_
  have hne := HM_ne nd
  have hvl := nodeV_len seed 0 k
  have hone := all_one_byte (nodeV seed 0 k)
  have hl2 : ((nodeV seed 0 k).map pbyte).length = 16 := by rw [List.length_map, hvl]
  have tk : List.take 16 ((nodeV seed 0 k).map pbyte) = (nodeV seed 0 k).map pbyte := List.take_of_length_le (by omega)
  obtain ⟨Z, hZ⟩ : ∃ Z, Z = List.replicate 16 (pint .u8 0) := ⟨_, rfl⟩
  have hZ2 : [pint .u8 0, pint .u8 0, pint .u8 0, pint .u8 0, pint .u8 0, pint .u8 0, pint .u8 0, pint .u8 0, pint .u8 0, pint .u8 0, pint .u8 0, pint .u8 0, pint .u8 0, pint .u8 0, pint .u8 0, pint .u8 0] = Z := by rw [hZ]; rfl
  have hZl : Z.length = 16 := by rw [hZ]; rfl
  have hZd : List.drop 16 Z = [] := List.drop_of_length_le (by omega)
  have hZo : Z.all PV.one = true := by rw [hZ]; rfl
  have hm1 : mfind (.agg #[.int .i64 0, .int .i64 (k : Int)]) (memC seed T) 0 = some none := mfind_not seed 0 k T 0 hm
  have hap : memC seed T ++ [.ent (.val (.agg #[.int .i64 0, .int .i64 (k : Int)])) (.agg ((nodeV seed 0 k).map pbyte))] = memC seed (T ++ [(0, k)]) := memC_app seed 0 k T
  have hkR : inR (k : Int) := ⟨by omega, by omega⟩
  have c1 := leaf_c G hG 45 [.iptr [pint .i64 k] 0, .iptr [pstr seed] 0] (topF seed k) (fun c _ => topF_len _ _ _) (by kernel_rfl) (fun c hc => top_c G hG seed hs k hkR c hc)
  rw [show leafF (topF seed k) = nodeV seed 0 k from rfl] at c1
  have hfin2 : NRes a m M s seed 0 k (.agg ((nodeV seed 0 k).map pbyte)) (HM a m M s seed (T ++ [(0, k)])) := ⟨rfl, _, rfl⟩
  have hR : ∀ res H, NRes a m M s seed 0 k res H → NRes a m M s seed 0 k res H := fun _ _ h => h
  generalize NRes a m M s seed 0 k = R at *
  generalize nodeV seed 0 k = x at *
  (refine PCalls_f Tryd.func44 rfl Tryd.ntmps44 Tryd.results44 (by simp) fun fin hfin => ?_; have hnm : True := trivial; simp (maxSteps := 2000000) (disch := omega) only [evb, evd, eve, constPV, seqK, blockK, scopeK, pbound, pelems, PV.mem?, PV.one, PV.cells, peqs, peq1, pkeys, List.set, Value.cells, ↓popG_eq, ↓pop.eq_1, ↓List.getElem?_map, ↓List.getElem?_cons_zero, ↓List.getElem?_cons_succ, Value.oneCell', Nat.reduceAdd, Nat.reduceMul, Nat.reduceSub, Nat.reduceLeDiff, Nat.reduceEqDiff, ↓reduceIte, ne_eq, reduceCtorEq, forall_const, exists_and_left, exists_eq_left', eq_self, Nat.reduceLT, Int.reduceLT, Int.reduceLE, Int.reduceToNat, Int.reduceAdd, Int.reduceSub, Int.reduceNeg, hnm, Tryd.tf0, Tryd.tf1, Tryd.tf3, Tryd.tf4, Tryd.tf5, Tryd.tf23, Tryd.tf28, Tryd.tf45, Tryd.tf69, Tryd.tf73, Tryd.tf74, Tryd.call38, Tryd.call40])
  repeat' (first
    | (with_reducible apply W_seq_k; intro nx hnx)
    | (with_reducible first | apply W_block | apply W_scope)
    | (with_reducible refine W_prune 2015 ?_; simp only [prb, Nat.reducePow, Nat.reduceDiv, Nat.reduceMod, Nat.reduceBEq]; first | (with_reducible apply W_region_l) | with_reducible refine W_region_draw (id := 7) 3 (.op 0 true (.op 1 true (.op 2 true (.op 3 true (.op 4 true (.op 7 true (.op 8 true (.alt 5 false (.alt 6 true (.alt 9 true (.op 10 true (.op 11 true (.op 12 false (.op 13 false (.op 14 false (.done)))))) .stop) (.alt 9 true (.op 10 true (.op 11 true (.alt 6 true (.op 12 false (.op 13 false (.op 14 false (.done)))) .stop))) .stop)) (.alt 6 true (.alt 5 false (.alt 9 true (.op 10 true (.op 11 true (.op 12 false (.op 13 false (.op 14 false (.done)))))) .stop) (.alt 9 true (.op 10 true (.op 11 true (.op 5 false (.op 12 false (.op 13 false (.op 14 false (.done))))))) .stop)) (.alt 9 true (.op 10 true (.op 11 true (.alt 5 false (.alt 6 true (.op 12 false (.op 13 false (.op 14 false (.done)))) .stop) (.alt 6 true (.op 5 false (.op 12 false (.op 13 false (.op 14 false (.done))))) .stop)))) .stop)))))))))) (by kernel_rfl) ?_)
    | ((first | (with_reducible apply WL_op; intro nx hnx) | with_reducible refine Ev_out ?_ | (with_reducible apply popsD_op; intro nx hnx) | (with_reducible refine popsD_alt ?_ ?_; intro nx hnx) | (with_reducible refine pfresh_k hnm fun nm hnm => ?_; (try simp only [fmb] at hnm)) | (with_reducible refine pborn_mu hnm fun nm hnm => ?_; (try simp only [fmb] at hnm))); try (simp (maxSteps := 2000000) (disch := omega) only [evb, evd, eve, constPV, seqK, blockK, scopeK, pbound, pelems, PV.mem?, PV.one, PV.cells, peqs, peq1, pkeys, List.set, Value.cells, ↓popG_eq, ↓pop.eq_1, ↓List.getElem?_map, ↓List.getElem?_cons_zero, ↓List.getElem?_cons_succ, Value.oneCell', Nat.reduceAdd, Nat.reduceMul, Nat.reduceSub, Nat.reduceLeDiff, Nat.reduceEqDiff, ↓reduceIte, ne_eq, reduceCtorEq, forall_const, exists_and_left, exists_eq_left', eq_self, Nat.reduceLT, Int.reduceLT, Int.reduceLE, Int.reduceToNat, Int.reduceAdd, Int.reduceSub, Int.reduceNeg, hnm, Tryd.tf0, Tryd.tf1, Tryd.tf3, Tryd.tf4, Tryd.tf5, Tryd.tf23, Tryd.tf28, Tryd.tf45, Tryd.tf69, Tryd.tf73, Tryd.tf74, Tryd.call38, Tryd.call40, hne, hm1, hZ2, hZl, hZd, hZo]); repeat (refine And.intro (by omega) ?_))
    | ((with_reducible first | apply WL_nil | apply W_label | apply W_skip | apply W_exit | apply W_ret | apply popsD_done); try simp only [seqK, blockK, scopeK, ↓reduceIte, Nat.reduceEqDiff])
    | with_reducible exact popsD_stop
    | (with_reducible apply W_cond_k; intro _ _ ea eb; (simp only [condK, cob, opnd, constPV, Nat.reduceEqDiff, Nat.reduceLT, ↓reduceIte, hcb, reduceCtorEq, forall_const, ne_eq]); subst ea eb; first | (refine ⟨fun hc => ?_, fun hc => ?_⟩ <;> first | (exfalso; omega) | (exfalso; exact hc trivial) | skip) | skip)
    | (with_reducible apply hnx; clear hnx nx)
    | (with_reducible refine And.intro (by omega) ?_)
    | (with_reducible refine And.intro ?_ ?_)
    | (clear hnx nx; with_reducible apply hnx; clear hnx nx)
    | (clear hnx nx; clear hnx nx; with_reducible apply hnx; clear hnx nx))
  obtain ⟨N10, hN10⟩ : ∃ N, N = nm := ⟨_, rfl⟩
  subst hN10
  obtain ⟨N8, hN8⟩ : ∃ N, N = nm := ⟨_, rfl⟩
  subst hN8
  obtain ⟨N7, hN7⟩ : ∃ N, N = nm := ⟨_, rfl⟩
  subst hN7
  obtain ⟨N6, hN6⟩ : ∃ N, N = nm := ⟨_, rfl⟩
  subst hN6
  refine pcall_lend2 (R := fun res H => res = .agg (x.map pbyte) ∧ H = []) N6 s ⟨3, false, 0, [pint .i64 k]⟩ ⟨9, false, 0, [pstr seed]⟩ (by simp [look, hnm, hne]) (by simp [look, hnm, hne]) ?_ ?_
  · have e : ([PV.func 45 [.ptr N6 0, .ptr s 0]].map fun p => frz s [pstr seed] (frz N6 [pint .i64 k] p)) = [.func 45 [.iptr [pint .i64 k] 0, .iptr [pstr seed] 0]] := by
      simp [frz, frz1, hnm, hne]
    rw [e]
    exact c1
  · rintro _ _ ⟨rfl, rfl⟩
    refine ⟨rfl, Flat_all fun c hc => ?_, ?_⟩
    · obtain ⟨b, _, rfl⟩ := List.mem_map.1 hc
      exact ⟨_, rfl⟩
    refine Ev_in ?_
    repeat' (first
    | (with_reducible apply W_seq_k; intro nx hnx)
    | (with_reducible first | apply W_block | apply W_scope)
    | (with_reducible refine W_prune 2015 ?_; simp only [prb, Nat.reducePow, Nat.reduceDiv, Nat.reduceMod, Nat.reduceBEq]; first | (with_reducible apply W_region_l) | with_reducible refine W_region_draw (id := 7) 3 (.op 0 true (.op 1 true (.op 2 true (.op 3 true (.op 4 true (.op 7 true (.op 8 true (.alt 5 false (.alt 6 true (.alt 9 true (.op 10 true (.op 11 true (.op 12 false (.op 13 false (.op 14 false (.done)))))) .stop) (.alt 9 true (.op 10 true (.op 11 true (.alt 6 true (.op 12 false (.op 13 false (.op 14 false (.done)))) .stop))) .stop)) (.alt 6 true (.alt 5 false (.alt 9 true (.op 10 true (.op 11 true (.op 12 false (.op 13 false (.op 14 false (.done)))))) .stop) (.alt 9 true (.op 10 true (.op 11 true (.op 5 false (.op 12 false (.op 13 false (.op 14 false (.done))))))) .stop)) (.alt 9 true (.op 10 true (.op 11 true (.alt 5 false (.alt 6 true (.op 12 false (.op 13 false (.op 14 false (.done)))) .stop) (.alt 6 true (.op 5 false (.op 12 false (.op 13 false (.op 14 false (.done))))) .stop)))) .stop)))))))))) (by kernel_rfl) ?_)
    | ((first | (with_reducible apply WL_op; intro nx hnx) | with_reducible refine Ev_out ?_ | (with_reducible apply popsD_op; intro nx hnx) | (with_reducible refine popsD_alt ?_ ?_; intro nx hnx) | (with_reducible refine pfresh_k hnm fun nm hnm => ?_; (try simp only [fmb] at hnm)) | (with_reducible refine pborn_mu hnm fun nm hnm => ?_; (try simp only [fmb] at hnm))); try (simp (maxSteps := 2000000) (disch := omega) only [evb, evd, eve, constPV, seqK, blockK, scopeK, pbound, pelems, PV.mem?, PV.one, PV.cells, peqs, peq1, pkeys, List.set, Value.cells, ↓popG_eq, ↓pop.eq_1, ↓List.getElem?_map, ↓List.getElem?_cons_zero, ↓List.getElem?_cons_succ, Value.oneCell', Nat.reduceAdd, Nat.reduceMul, Nat.reduceSub, Nat.reduceLeDiff, Nat.reduceEqDiff, ↓reduceIte, ne_eq, reduceCtorEq, forall_const, exists_and_left, exists_eq_left', eq_self, Nat.reduceLT, Int.reduceLT, Int.reduceLE, Int.reduceToNat, Int.reduceAdd, Int.reduceSub, Int.reduceNeg, hnm, Tryd.tf0, Tryd.tf1, Tryd.tf3, Tryd.tf4, Tryd.tf5, Tryd.tf23, Tryd.tf28, Tryd.tf45, Tryd.tf69, Tryd.tf73, Tryd.tf74, Tryd.call38, Tryd.call40, hne, hone, hl2, tk, hm1, hap, hZ2, hZl, hZd, hZo]); repeat (refine And.intro (by omega) ?_))
    | ((with_reducible first | apply WL_nil | apply W_label | apply W_skip | apply W_exit | apply W_ret | apply popsD_done); try simp only [seqK, blockK, scopeK, ↓reduceIte, Nat.reduceEqDiff])
    | with_reducible exact popsD_stop
    | (with_reducible apply W_cond_k; intro _ _ ea eb; (simp only [condK, cob, opnd, constPV, Nat.reduceEqDiff, Nat.reduceLT, ↓reduceIte, hcb, reduceCtorEq, forall_const, ne_eq]); subst ea eb; first | (refine ⟨fun hc => ?_, fun hc => ?_⟩ <;> first | (exfalso; omega) | (exfalso; exact hc trivial) | skip) | skip)
    | (with_reducible apply hnx; clear hnx nx)
    | (with_reducible refine And.intro (by omega) ?_)
    | (with_reducible refine And.intro ?_ ?_)
    | (clear hnx nx; with_reducible apply hnx; clear hnx nx)
    | (clear hnx nx; clear hnx nx; with_reducible apply hnx; clear hnx nx))
    all_goals first
      | exact rfl
      | (exfalso
         omega)
      | (refine hfin _ _ ?_
         exact Fin_digH (n := N7) (H := HM a m M s seed (T ++ [(0, k)])) (by simp only [fr_getD_cons, Nat.reduceEqDiff, Nat.reduceLT, ↓reduceIte]) (by simp [look, hnm]) hvl ⟨by simp, nd⟩ hfin2)
set_option maxRecDepth 100000 in
set_option maxHeartbeats 8000000 in
theorem node_succ (G : Globs) (hG : G 1 = .iptr (KS.map pw) 0) (seed : List UInt8) (a m M s : Int) (l k n k1 k2 : Nat) (hl : l ≤ 5) (hk : k ≤ 1000000) (hn : n = l + 1) (hk1 : k1 = 2 * k) (hk2 : k2 = 2 * k + 1) (T : List (Nat × Nat)) (hm : (n, k) ∉ T)
    (ih1 : PCalls Tryd.prog G 44 [pint .i64 l, pint .i64 k1, .ptr m 0, .ptr s 0, .ptr a 0] (HM a m M s seed T) (NRes a m M s seed l k1))
    (ih2 : ∀ T', PCalls Tryd.prog G 44 [pint .i64 l, pint .i64 k2, .ptr m 0, .ptr s 0, .ptr a 0] (HM a m M s seed T') (NRes a m M s seed l k2)) :
    PCalls Tryd.prog G 44 [pint .i64 n, pint .i64 k, .ptr m 0, .ptr s 0, .ptr a 0] (HM a m M s seed T) (NRes a m M s seed n k) := by
  refine PCalls.nd fun nd => ?_
  have hne := HM_ne nd
  have hvl := nodeV_len seed n k
  have hone := all_one_byte (nodeV seed n k)
  have hl2 : ((nodeV seed n k).map pbyte).length = 16 := by rw [List.length_map, hvl]
  have tk : List.take 16 ((nodeV seed n k).map pbyte) = (nodeV seed n k).map pbyte := List.take_of_length_le (by omega)
  obtain ⟨Z, hZ⟩ : ∃ Z, Z = List.replicate 16 (pint .u8 0) := ⟨_, rfl⟩
  have hZ2 : [pint .u8 0, pint .u8 0, pint .u8 0, pint .u8 0, pint .u8 0, pint .u8 0, pint .u8 0, pint .u8 0, pint .u8 0, pint .u8 0, pint .u8 0, pint .u8 0, pint .u8 0, pint .u8 0, pint .u8 0, pint .u8 0] = Z := by rw [hZ]; rfl
  have hZl : Z.length = 16 := by rw [hZ]; rfl
  have hZd : List.drop 16 Z = [] := List.drop_of_length_le (by omega)
  have hZo : Z.all PV.one = true := by rw [hZ]; rfl
  have hm1 : mfind (.agg #[.int .i64 (n : Int), .int .i64 (k : Int)]) (memC seed T) 0 = some none := mfind_not seed n k T 0 hm
  have hap : ∀ T', memC seed T' ++ [.ent (.val (.agg #[.int .i64 (n : Int), .int .i64 (k : Int)])) (.agg ((nodeV seed n k).map pbyte))] = memC seed (T' ++ [(n, k)]) := memC_app seed n k
  have hmN : ∀ T', (n, k) ∉ T' → mfind (.agg #[.int .i64 (n : Int), .int .i64 (k : Int)]) (memC seed T') 0 = some none := fun T' h => mfind_not seed n k T' 0 h
  have hmY : ∀ T', (n, k) ∈ T' → ∃ j, mfind (.agg #[.int .i64 (n : Int), .int .i64 (k : Int)]) (memC seed T') 0 = some (some (j, .agg ((nodeV seed n k).map pbyte))) ∧
      (memC seed T').set j (.ent (.val (.agg #[.int .i64 (n : Int), .int .i64 (k : Int)])) (.agg ((nodeV seed n k).map pbyte))) = memC seed T' := fun T' h => by
    obtain ⟨j, h1, h2⟩ := mfind_mem seed n k T' 0 h
    rw [Nat.zero_add] at h1
    exact ⟨j, h1, memC_set seed n k j T' h2⟩
  have c1 := node_c G hG (nodeV seed l k1) (nodeV seed l k2) (nodeV_len _ _ _) (nodeV_len _ _ _)
  rw [show nodeF (nodeV seed l k1) (nodeV seed l k2) = nodeV seed n k by rw [hn, hk1, hk2]; rfl] at c1
  have hfin2 : ∀ T', NRes a m M s seed n k (.agg ((nodeV seed n k).map pbyte)) (HM a m M s seed T') := fun T' => ⟨rfl, T', rfl⟩
  have g0 : ¬ n = 0 := by omega
  have hca : callable Tryd.prog 44 = true := by kernel_rfl
  have g1 : (n : Int) - 1 = (l : Int) := by omega
  have g2 : 2 * (k : Int) = (k1 : Int) := by omega
  have g3 : (k1 : Int) + 1 = (k2 : Int) := by omega
  generalize NRes a m M s seed n k = R at *
  generalize nodeV seed n k = x at *
  (refine PCalls_f Tryd.func44 rfl Tryd.ntmps44 Tryd.results44 (by simp) fun fin hfin => ?_; have hnm : True := trivial; simp (maxSteps := 2000000) (disch := omega) only [evb, evd, eve, constPV, seqK, blockK, scopeK, pbound, pelems, PV.mem?, PV.one, PV.cells, peqs, peq1, pkeys, List.set, Value.cells, ↓popG_eq, ↓pop.eq_1, ↓List.getElem?_map, ↓List.getElem?_cons_zero, ↓List.getElem?_cons_succ, Value.oneCell', Nat.reduceAdd, Nat.reduceMul, Nat.reduceSub, Nat.reduceLeDiff, Nat.reduceEqDiff, ↓reduceIte, ne_eq, reduceCtorEq, forall_const, exists_and_left, exists_eq_left', eq_self, Nat.reduceLT, Int.reduceLT, Int.reduceLE, Int.reduceToNat, Int.reduceAdd, Int.reduceSub, Int.reduceNeg, hnm, Tryd.tf0, Tryd.tf1, Tryd.tf3, Tryd.tf4, Tryd.tf5, Tryd.tf23, Tryd.tf28, Tryd.tf45, Tryd.tf69, Tryd.tf73, Tryd.tf74, Tryd.call38, Tryd.call40])
  repeat' (first
    | (with_reducible apply W_seq_k; intro nx hnx)
    | (with_reducible first | apply W_block | apply W_scope)
    | (with_reducible refine W_prune 2015 ?_; simp only [prb, Nat.reducePow, Nat.reduceDiv, Nat.reduceMod, Nat.reduceBEq]; first | (with_reducible apply W_region_l) | with_reducible refine W_region_draw (id := 7) 3 (.op 0 true (.op 1 true (.op 2 true (.op 3 true (.op 4 true (.op 7 true (.op 8 true (.alt 5 false (.alt 6 true (.alt 9 true (.op 10 true (.op 11 true (.op 12 false (.op 13 false (.op 14 false (.done)))))) .stop) (.alt 9 true (.op 10 true (.op 11 true (.alt 6 true (.op 12 false (.op 13 false (.op 14 false (.done)))) .stop))) .stop)) (.alt 6 true (.alt 5 false (.alt 9 true (.op 10 true (.op 11 true (.op 12 false (.op 13 false (.op 14 false (.done)))))) .stop) (.alt 9 true (.op 10 true (.op 11 true (.op 5 false (.op 12 false (.op 13 false (.op 14 false (.done))))))) .stop)) (.alt 9 true (.op 10 true (.op 11 true (.alt 5 false (.alt 6 true (.op 12 false (.op 13 false (.op 14 false (.done)))) .stop) (.alt 6 true (.op 5 false (.op 12 false (.op 13 false (.op 14 false (.done))))) .stop)))) .stop)))))))))) (by kernel_rfl) ?_)
    | ((first | (with_reducible apply WL_op; intro nx hnx) | with_reducible refine Ev_out ?_ | (with_reducible apply popsD_op; intro nx hnx) | (with_reducible refine popsD_alt ?_ ?_; intro nx hnx) | (with_reducible refine pfresh_k hnm fun nm hnm => ?_; (try simp only [fmb] at hnm)) | (with_reducible refine pborn_mu hnm fun nm hnm => ?_; (try simp only [fmb] at hnm))); try (simp (maxSteps := 2000000) (disch := omega) only [evb, evd, eve, constPV, seqK, blockK, scopeK, pbound, pelems, PV.mem?, PV.one, PV.cells, peqs, peq1, pkeys, List.set, Value.cells, ↓popG_eq, ↓pop.eq_1, ↓List.getElem?_map, ↓List.getElem?_cons_zero, ↓List.getElem?_cons_succ, Value.oneCell', Nat.reduceAdd, Nat.reduceMul, Nat.reduceSub, Nat.reduceLeDiff, Nat.reduceEqDiff, ↓reduceIte, ne_eq, reduceCtorEq, forall_const, exists_and_left, exists_eq_left', eq_self, Nat.reduceLT, Int.reduceLT, Int.reduceLE, Int.reduceToNat, Int.reduceAdd, Int.reduceSub, Int.reduceNeg, hnm, Tryd.tf0, Tryd.tf1, Tryd.tf3, Tryd.tf4, Tryd.tf5, Tryd.tf23, Tryd.tf28, Tryd.tf45, Tryd.tf69, Tryd.tf73, Tryd.tf74, Tryd.call38, Tryd.call40, hne, hvl, hone, hl2, tk, hm1, hZ2, hZl, hZd, hZo, hca, g0, g1, g2, g3]); repeat (refine And.intro (by omega) ?_))
    | ((with_reducible first | apply WL_nil | apply W_label | apply W_skip | apply W_exit | apply W_ret | apply popsD_done); try simp only [seqK, blockK, scopeK, ↓reduceIte, Nat.reduceEqDiff])
    | with_reducible exact popsD_stop
    | (with_reducible apply W_cond_k; intro _ _ ea eb; (simp only [condK, cob, opnd, constPV, Nat.reduceEqDiff, Nat.reduceLT, ↓reduceIte, hcb, reduceCtorEq, forall_const, ne_eq]); subst ea eb; first | (refine ⟨fun hc => ?_, fun hc => ?_⟩ <;> first | (exfalso; omega) | (exfalso; exact hc trivial) | skip) | skip)
    | (with_reducible apply hnx; clear hnx nx)
    | (with_reducible refine And.intro (by omega) ?_)
    | (with_reducible refine And.intro ?_ ?_)
    | (with_reducible refine pcall_k (c1) ?_; rintro _ _ ⟨rfl, rfl⟩ -; refine Ev_in ?_)
    | ((refine pcall_mid [_, _, _, _] (HM a m M s seed _) [] rfl ih1 ?_; rintro _ _ ⟨rfl, T1, rfl⟩; refine Ev_in ?_))
    | ((refine pcall_mid [_, _, _, _] (HM a m M s seed _) [] rfl (ih2 _) ?_; rintro _ _ ⟨rfl, T2, rfl⟩; refine Ev_in ?_))
    | (clear hnx nx; with_reducible apply hnx; clear hnx nx)
    | (clear hnx nx; clear hnx nx; with_reducible apply hnx; clear hnx nx))
  all_goals first
    | exact rfl
    | (by_cases hm2 : (n, k) ∈ T2
       · obtain ⟨j, y1, y2⟩ := hmY T2 hm2
         simp only [y1]
         repeat' (first
    | (with_reducible apply W_seq_k; intro nx hnx)
    | (with_reducible first | apply W_block | apply W_scope)
    | (with_reducible refine W_prune 2015 ?_; simp only [prb, Nat.reducePow, Nat.reduceDiv, Nat.reduceMod, Nat.reduceBEq]; first | (with_reducible apply W_region_l) | with_reducible refine W_region_draw (id := 7) 3 (.op 0 true (.op 1 true (.op 2 true (.op 3 true (.op 4 true (.op 7 true (.op 8 true (.alt 5 false (.alt 6 true (.alt 9 true (.op 10 true (.op 11 true (.op 12 false (.op 13 false (.op 14 false (.done)))))) .stop) (.alt 9 true (.op 10 true (.op 11 true (.alt 6 true (.op 12 false (.op 13 false (.op 14 false (.done)))) .stop))) .stop)) (.alt 6 true (.alt 5 false (.alt 9 true (.op 10 true (.op 11 true (.op 12 false (.op 13 false (.op 14 false (.done)))))) .stop) (.alt 9 true (.op 10 true (.op 11 true (.op 5 false (.op 12 false (.op 13 false (.op 14 false (.done))))))) .stop)) (.alt 9 true (.op 10 true (.op 11 true (.alt 5 false (.alt 6 true (.op 12 false (.op 13 false (.op 14 false (.done)))) .stop) (.alt 6 true (.op 5 false (.op 12 false (.op 13 false (.op 14 false (.done))))) .stop)))) .stop)))))))))) (by kernel_rfl) ?_)
    | ((first | (with_reducible apply WL_op; intro nx hnx) | with_reducible refine Ev_out ?_ | (with_reducible apply popsD_op; intro nx hnx) | (with_reducible refine popsD_alt ?_ ?_; intro nx hnx) | (with_reducible refine pfresh_k hnm fun nm hnm => ?_; (try simp only [fmb] at hnm)) | (with_reducible refine pborn_mu hnm fun nm hnm => ?_; (try simp only [fmb] at hnm))); try (simp (maxSteps := 2000000) (disch := omega) only [evb, evd, eve, constPV, seqK, blockK, scopeK, pbound, pelems, PV.mem?, PV.one, PV.cells, peqs, peq1, pkeys, List.set, Value.cells, ↓popG_eq, ↓pop.eq_1, ↓List.getElem?_map, ↓List.getElem?_cons_zero, ↓List.getElem?_cons_succ, Value.oneCell', Nat.reduceAdd, Nat.reduceMul, Nat.reduceSub, Nat.reduceLeDiff, Nat.reduceEqDiff, ↓reduceIte, ne_eq, reduceCtorEq, forall_const, exists_and_left, exists_eq_left', eq_self, Nat.reduceLT, Int.reduceLT, Int.reduceLE, Int.reduceToNat, Int.reduceAdd, Int.reduceSub, Int.reduceNeg, hnm, Tryd.tf0, Tryd.tf1, Tryd.tf3, Tryd.tf4, Tryd.tf5, Tryd.tf23, Tryd.tf28, Tryd.tf45, Tryd.tf69, Tryd.tf73, Tryd.tf74, Tryd.call38, Tryd.call40, hne, hone, hl2, tk, y2, hZ2, hZl, hZd, hZo]); repeat (refine And.intro (by omega) ?_))
    | ((with_reducible first | apply WL_nil | apply W_label | apply W_skip | apply W_exit | apply W_ret | apply popsD_done); try simp only [seqK, blockK, scopeK, ↓reduceIte, Nat.reduceEqDiff])
    | with_reducible exact popsD_stop
    | (with_reducible apply W_cond_k; intro _ _ ea eb; (simp only [condK, cob, opnd, constPV, Nat.reduceEqDiff, Nat.reduceLT, ↓reduceIte, hcb, reduceCtorEq, forall_const, ne_eq]); subst ea eb; first | (refine ⟨fun hc => ?_, fun hc => ?_⟩ <;> first | (exfalso; omega) | (exfalso; exact hc trivial) | skip) | skip)
    | (with_reducible apply hnx; clear hnx nx)
    | (with_reducible refine And.intro (by omega) ?_)
    | (with_reducible refine And.intro ?_ ?_)
    | (clear hnx nx; with_reducible apply hnx; clear hnx nx)
    | (clear hnx nx; clear hnx nx; with_reducible apply hnx; clear hnx nx))
         all_goals first
           | exact rfl
           | (refine hfin _ _ ?_
              exact Fin_digH (n := _) (H := HM a m M s seed T2) (by simp only [fr_getD_cons, Nat.reduceEqDiff, Nat.reduceLT, ↓reduceIte]; rfl) (by simp [look, hnm]) hvl ⟨by simp, nd⟩ (hfin2 T2))
       · have y1 := hmN T2 hm2
         simp only [y1]
         have y2 := hap T2
         repeat' (first
    | (with_reducible apply W_seq_k; intro nx hnx)
    | (with_reducible first | apply W_block | apply W_scope)
    | (with_reducible refine W_prune 2015 ?_; simp only [prb, Nat.reducePow, Nat.reduceDiv, Nat.reduceMod, Nat.reduceBEq]; first | (with_reducible apply W_region_l) | with_reducible refine W_region_draw (id := 7) 3 (.op 0 true (.op 1 true (.op 2 true (.op 3 true (.op 4 true (.op 7 true (.op 8 true (.alt 5 false (.alt 6 true (.alt 9 true (.op 10 true (.op 11 true (.op 12 false (.op 13 false (.op 14 false (.done)))))) .stop) (.alt 9 true (.op 10 true (.op 11 true (.alt 6 true (.op 12 false (.op 13 false (.op 14 false (.done)))) .stop))) .stop)) (.alt 6 true (.alt 5 false (.alt 9 true (.op 10 true (.op 11 true (.op 12 false (.op 13 false (.op 14 false (.done)))))) .stop) (.alt 9 true (.op 10 true (.op 11 true (.op 5 false (.op 12 false (.op 13 false (.op 14 false (.done))))))) .stop)) (.alt 9 true (.op 10 true (.op 11 true (.alt 5 false (.alt 6 true (.op 12 false (.op 13 false (.op 14 false (.done)))) .stop) (.alt 6 true (.op 5 false (.op 12 false (.op 13 false (.op 14 false (.done))))) .stop)))) .stop)))))))))) (by kernel_rfl) ?_)
    | ((first | (with_reducible apply WL_op; intro nx hnx) | with_reducible refine Ev_out ?_ | (with_reducible apply popsD_op; intro nx hnx) | (with_reducible refine popsD_alt ?_ ?_; intro nx hnx) | (with_reducible refine pfresh_k hnm fun nm hnm => ?_; (try simp only [fmb] at hnm)) | (with_reducible refine pborn_mu hnm fun nm hnm => ?_; (try simp only [fmb] at hnm))); try (simp (maxSteps := 2000000) (disch := omega) only [evb, evd, eve, constPV, seqK, blockK, scopeK, pbound, pelems, PV.mem?, PV.one, PV.cells, peqs, peq1, pkeys, List.set, Value.cells, ↓popG_eq, ↓pop.eq_1, ↓List.getElem?_map, ↓List.getElem?_cons_zero, ↓List.getElem?_cons_succ, Value.oneCell', Nat.reduceAdd, Nat.reduceMul, Nat.reduceSub, Nat.reduceLeDiff, Nat.reduceEqDiff, ↓reduceIte, ne_eq, reduceCtorEq, forall_const, exists_and_left, exists_eq_left', eq_self, Nat.reduceLT, Int.reduceLT, Int.reduceLE, Int.reduceToNat, Int.reduceAdd, Int.reduceSub, Int.reduceNeg, hnm, Tryd.tf0, Tryd.tf1, Tryd.tf3, Tryd.tf4, Tryd.tf5, Tryd.tf23, Tryd.tf28, Tryd.tf45, Tryd.tf69, Tryd.tf73, Tryd.tf74, Tryd.call38, Tryd.call40, hne, hone, hl2, tk, y2, hZ2, hZl, hZd, hZo]); repeat (refine And.intro (by omega) ?_))
    | ((with_reducible first | apply WL_nil | apply W_label | apply W_skip | apply W_exit | apply W_ret | apply popsD_done); try simp only [seqK, blockK, scopeK, ↓reduceIte, Nat.reduceEqDiff])
    | with_reducible exact popsD_stop
    | (with_reducible apply W_cond_k; intro _ _ ea eb; (simp only [condK, cob, opnd, constPV, Nat.reduceEqDiff, Nat.reduceLT, ↓reduceIte, hcb, reduceCtorEq, forall_const, ne_eq]); subst ea eb; first | (refine ⟨fun hc => ?_, fun hc => ?_⟩ <;> first | (exfalso; omega) | (exfalso; exact hc trivial) | skip) | skip)
    | (with_reducible apply hnx; clear hnx nx)
    | (with_reducible refine And.intro (by omega) ?_)
    | (with_reducible refine And.intro ?_ ?_)
    | (clear hnx nx; with_reducible apply hnx; clear hnx nx)
    | (clear hnx nx; clear hnx nx; with_reducible apply hnx; clear hnx nx))
         all_goals first
           | exact rfl
           | (refine hfin _ _ ?_
              exact Fin_digH (n := _) (H := HM a m M s seed (T2 ++ [(n, k)])) (by simp only [fr_getD_cons, Nat.reduceEqDiff, Nat.reduceLT, ↓reduceIte]; rfl) (by simp [look, hnm]) hvl ⟨by simp, nd⟩ (hfin2 _)))
theorem node_at (G : Globs) (hG : G 1 = .iptr (KS.map pw) 0) (seed : List UInt8) (hs : seed.length ≤ 4000) (a m M s : Int) :
    ∀ (l k : Nat) (T : List (Nat × Nat)), l ≤ 6 → (k + 1) * 2 ^ l ≤ 1000000 → PCalls Tryd.prog G 44 [pint .i64 l, pint .i64 k, .ptr m 0, .ptr s 0, .ptr a 0] (HM a m M s seed T) (NRes a m M s seed l k)
  | l, k, T, hl, hk => by
    by_cases hm : (l, k) ∈ T
    · exact node_hit G seed a m M s l k T hm
    · match l, hl, hk, hm with
      | 0, hl, hk, hm => exact node_zero G hG seed hs a m M s k (by omega) T hm
      | l + 1, hl, hk, hm =>
        have hp : 0 < 2 ^ l := Nat.pow_pos (by omega)
        have hb : (2 * k + 1 + 1) * 2 ^ l ≤ 1000000 := by
          rw [Nat.pow_succ, Nat.mul_comm (2 ^ l) 2, ← Nat.mul_assoc] at hk
          rw [show 2 * k + 1 + 1 = (k + 1) * 2 by omega]
          exact hk
        have hb2 : (2 * k + 1) * 2 ^ l ≤ 1000000 := Nat.le_trans (Nat.mul_le_mul_right _ (by omega)) hb
        have hk6 : k ≤ 1000000 := by
          have : 2 * k + 1 + 1 ≤ (2 * k + 1 + 1) * 2 ^ l := Nat.le_mul_of_pos_right _ hp
          omega
        exact node_succ G hG seed a m M s l k (l + 1) (2 * k) (2 * k + 1) (by omega) hk6 rfl rfl rfl T hm (node_at G hG seed hs a m M s l (2 * k) T (by omega) hb2) (fun T' => node_at G hG seed hs a m M s l (2 * k + 1) T' (by omega) hb)
end Go.PM

namespace Go.PM
open Go.Proofs
attribute [local irreducible] W PCalls pcall pcallI WL
set_option maxRecDepth 100000 in
set_option maxHeartbeats 8000000 in
theorem nodes_c (G : Globs) (seed : List UInt8) : PCalls Tryd.prog G 22 [pstr seed] [] (fun res H => ∃ a m M s, res = .func 44 [.ptr m 0, .ptr s 0, .ptr a 0] ∧ H = HM a m M s seed []) := by
  (refine PCalls_f Tryd.func22 rfl Tryd.ntmps22 Tryd.results22 (by simp) fun fin hfin => ?_; have hnm : True := trivial; simp (maxSteps := 2000000) (disch := omega) only [evb, evd, eve, constPV, seqK, blockK, scopeK, pbound, pelems, PV.mem?, PV.one, PV.cells, peqs, peq1, pkeys, List.set, Value.cells, ↓popG_eq, ↓pop.eq_1, ↓List.getElem?_map, ↓List.getElem?_cons_zero, ↓List.getElem?_cons_succ, Value.oneCell', Nat.reduceAdd, Nat.reduceMul, Nat.reduceSub, Nat.reduceLeDiff, Nat.reduceEqDiff, ↓reduceIte, ne_eq, reduceCtorEq, forall_const, exists_and_left, exists_eq_left', eq_self, Nat.reduceLT, Int.reduceLT, Int.reduceLE, Int.reduceToNat, Int.reduceAdd, Int.reduceSub, Int.reduceNeg, hnm, Tryd.tf0, Tryd.tf9, Tryd.tf45, Tryd.tf73])
  repeat' (first
    | (with_reducible apply W_seq_k; intro nx hnx)
    | (with_reducible first | apply W_block | apply W_scope)
    | (with_reducible refine W_prune 31 ?_; simp only [prb, Nat.reducePow, Nat.reduceDiv, Nat.reduceMod, Nat.reduceBEq]; with_reducible apply W_region_l)
    | ((first | (with_reducible apply WL_op; intro nx hnx) | with_reducible refine Ev_out ?_ | (with_reducible refine pfresh_k hnm fun nm hnm => ?_; (try simp only [fmb] at hnm)) | (with_reducible refine pborn_mu hnm fun nm hnm => ?_; (try simp only [fmb] at hnm))); try (simp (maxSteps := 2000000) (disch := omega) only [evb, evd, eve, constPV, seqK, blockK, scopeK, pbound, pelems, PV.mem?, PV.one, PV.cells, peqs, peq1, pkeys, List.set, Value.cells, ↓popG_eq, ↓pop.eq_1, ↓List.getElem?_map, ↓List.getElem?_cons_zero, ↓List.getElem?_cons_succ, Value.oneCell', Nat.reduceAdd, Nat.reduceMul, Nat.reduceSub, Nat.reduceLeDiff, Nat.reduceEqDiff, ↓reduceIte, ne_eq, reduceCtorEq, forall_const, exists_and_left, exists_eq_left', eq_self, Nat.reduceLT, Int.reduceLT, Int.reduceLE, Int.reduceToNat, Int.reduceAdd, Int.reduceSub, Int.reduceNeg, hnm, Tryd.tf0, Tryd.tf9, Tryd.tf45, Tryd.tf73]); repeat (refine And.intro (by omega) ?_))
    | ((with_reducible first | apply WL_nil | apply W_label | apply W_skip | apply W_exit | apply W_ret); try simp only [seqK, blockK, scopeK, ↓reduceIte, Nat.reduceEqDiff])
    | (with_reducible apply W_cond_k; intro _ _ ea eb; (simp only [condK, cob, opnd, constPV, Nat.reduceEqDiff, Nat.reduceLT, ↓reduceIte, hcb, reduceCtorEq, forall_const, ne_eq]); subst ea eb; first | (refine ⟨fun hc => ?_, fun hc => ?_⟩ <;> first | (exfalso; omega) | (exfalso; exact hc trivial) | skip) | skip)
    | (with_reducible apply hnx; clear hnx nx)
    | (with_reducible refine And.intro (by omega) ?_)
    | (with_reducible refine And.intro ?_ ?_)
    | (clear hnx nx; with_reducible apply hnx; clear hnx nx)
    | (clear hnx nx; clear hnx nx; with_reducible apply hnx; clear hnx nx))
  obtain ⟨NA, hNA⟩ : ∃ N, N = nm := ⟨_, rfl⟩
  subst hNA
  obtain ⟨NM, hNM⟩ : ∃ N, N = nm := ⟨_, rfl⟩
  subst hNM
  obtain ⟨NP, hNP⟩ : ∃ N, N = nm := ⟨_, rfl⟩
  subst hNP
  obtain ⟨NS, hNS⟩ : ∃ N, N = nm := ⟨_, rfl⟩
  subst hNS
  refine hfin _ _ (Fin_ret1 rfl (Sub_refl (by simp [names, hnm])) ?_); simp only [List.getD_cons_zero, List.getD_cons_succ, fr_getD_cons, fr_getD_nil, Nat.reduceEqDiff, Nat.reduceLT, ↓reduceIte]
  exact ⟨NA, NM, NP, NS, rfl, rfl⟩
set_option maxRecDepth 100000 in
set_option maxHeartbeats 8000000 in
theorem hpub_c (G : Globs) (hG : G 1 = .iptr (KS.map pw) 0) (seed : List UInt8) (n : Int) (hs : seed.length ≤ 4000) :
    PCalls Tryd.prog G 12 [pstr seed, pint .i64 n] [] (fun res H => res = .tuple [.agg ((pubF seed n).1.map pbyte), pint .i64 (pubF seed n).2] ∧ H = []) := by
  have c0 := valid_c G n
  have hfl := pubF_len seed n
  (refine PCalls_f Tryd.func12 rfl Tryd.ntmps12 Tryd.results12 (by simp) fun fin hfin => ?_; have hnm : True := trivial; simp (maxSteps := 2000000) (disch := omega) only [evb, evd, eve, constPV, seqK, blockK, scopeK, pbound, pelems, PV.mem?, PV.one, PV.cells, peqs, peq1, pkeys, List.set, Value.cells, ↓popG_eq, ↓pop.eq_1, ↓List.getElem?_map, ↓List.getElem?_cons_zero, ↓List.getElem?_cons_succ, Value.oneCell', Nat.reduceAdd, Nat.reduceMul, Nat.reduceSub, Nat.reduceLeDiff, Nat.reduceEqDiff, ↓reduceIte, ne_eq, reduceCtorEq, forall_const, exists_and_left, exists_eq_left', eq_self, Nat.reduceLT, Int.reduceLT, Int.reduceLE, Int.reduceToNat, Int.reduceAdd, Int.reduceSub, Int.reduceNeg, hnm, Tryd.tf0, Tryd.tf3, Tryd.tf4, Tryd.tf5, Tryd.tf9, Tryd.tf23, Tryd.tf29, Tryd.tf45, Tryd.call21, Tryd.call22])
  by_cases hf : seed.length = 32 ∧ 0 ≤ n ∧ n ≤ 6
  · have hp : pubF seed n = (nodeV seed n.toNat 0, 0) := by rw [pubF, if_pos hf]
    rw [hp] at hfl
    simp only [hp] at hfin
    rw [decide_eq_true hf.2] at c0
    obtain ⟨h, rfl⟩ : ∃ h : Nat, n = h := ⟨n.toNat, by omega⟩
    simp only [Int.toNat_natCast] at hfl hfin
    have hl := hf.1
    have hpw := pow_le64 h (by omega)
    have hca : callable Tryd.prog 44 = true := by kernel_rfl
    repeat' (first
    | (with_reducible apply W_seq_k; intro nx hnx)
    | (with_reducible first | apply W_block | apply W_scope)
    | (with_reducible refine W_prune 51 ?_; simp only [prb, Nat.reducePow, Nat.reduceDiv, Nat.reduceMod, Nat.reduceBEq]; with_reducible apply W_region_l)
    | ((first | (with_reducible apply WL_op; intro nx hnx) | with_reducible refine Ev_out ?_ | (with_reducible refine pfresh_k hnm fun nm hnm => ?_; (try simp only [fmb] at hnm)) | (with_reducible refine pborn_mu hnm fun nm hnm => ?_; (try simp only [fmb] at hnm))); try (simp (maxSteps := 2000000) (disch := omega) only [evb, evd, eve, constPV, seqK, blockK, scopeK, pbound, pelems, PV.mem?, PV.one, PV.cells, peqs, peq1, pkeys, List.set, Value.cells, ↓popG_eq, ↓pop.eq_1, ↓List.getElem?_map, ↓List.getElem?_cons_zero, ↓List.getElem?_cons_succ, Value.oneCell', Nat.reduceAdd, Nat.reduceMul, Nat.reduceSub, Nat.reduceLeDiff, Nat.reduceEqDiff, ↓reduceIte, ne_eq, reduceCtorEq, forall_const, exists_and_left, exists_eq_left', eq_self, Nat.reduceLT, Int.reduceLT, Int.reduceLE, Int.reduceToNat, Int.reduceAdd, Int.reduceSub, Int.reduceNeg, hnm, Tryd.tf0, Tryd.tf3, Tryd.tf4, Tryd.tf5, Tryd.tf9, Tryd.tf23, Tryd.tf29, Tryd.tf45, Tryd.call21, Tryd.call22, hl]); repeat (refine And.intro (by omega) ?_))
    | ((with_reducible first | apply WL_nil | apply W_label | apply W_skip | apply W_exit | apply W_ret); try simp only [seqK, blockK, scopeK, ↓reduceIte, Nat.reduceEqDiff])
    | (with_reducible apply pguard_intro <;> (intro hc; (try simp only [hcb, reduceCtorEq, forall_const, ne_eq] at hc); first | (exfalso; omega) | (exfalso; exact hc trivial) | refine Ev_in ?_))
    | (with_reducible apply W_cond_k; intro _ _ ea eb; (simp only [condK, cob, opnd, constPV, Nat.reduceEqDiff, Nat.reduceLT, ↓reduceIte, hcb, reduceCtorEq, forall_const, ne_eq]); subst ea eb; first | (refine ⟨fun hc => ?_, fun hc => ?_⟩ <;> first | (exfalso; omega) | (exfalso; exact hc trivial) | skip) | skip)
    | (with_reducible apply hnx; clear hnx nx)
    | (with_reducible refine And.intro (by omega) ?_)
    | (with_reducible refine And.intro ?_ ?_)
    | (with_reducible refine pcall_k (c0) ?_; rintro _ _ ⟨rfl, rfl⟩ -; refine Ev_in ?_)
    | (clear hnx nx; with_reducible apply hnx; clear hnx nx)
    | (clear hnx nx; clear hnx nx; with_reducible apply hnx; clear hnx nx))
    all_goals first
      | exact absurd trivial hc
      | exact rfl
      | (exfalso
         omega)
      | (intro hh
         exfalso
         simp at hh
         done)
      | skip
    obtain ⟨NT, hNT⟩ : ∃ N, N = nm := ⟨_, rfl⟩
    subst hNT
    refine pcall_k (nodes_c G seed) ?_
    rintro _ _ ⟨a, m, M, s, rfl, rfl⟩ hd
    have hd2 : (a = NT) = False ∧ (m = NT) = False ∧ (M = NT) = False ∧ (s = NT) = False := by
      have h1 : ∀ x ∈ [a, m, M, s], x ≠ NT := fun x hx e => hd x hx (by simp [names, e])
      exact ⟨eq_false (h1 a (by simp)), eq_false (h1 m (by simp)), eq_false (h1 M (by simp)), eq_false (h1 s (by simp))⟩
    have cn := node_at G hG seed hs a m M s h 0 [] (by omega) (by omega)
    have cn : PCalls Tryd.prog G 44 [pint .i64 h, .val (.int .i64 0), .ptr m 0, .ptr s 0, .ptr a 0] (HM a m M s seed []) (NRes a m M s seed h 0) := cn
    have hRf : ∀ res H, NRes a m M s seed h 0 res H → res = .agg ((nodeV seed h 0).map pbyte) ∧ ∃ T', H = HM a m M s seed T' := fun _ _ h => h
    generalize NRes a m M s seed h 0 = R at *
    generalize nodeV seed h 0 = v at *
    have ho := all_one_byte v
    have hl2 : (v.map pbyte).length = 16 := by rw [List.length_map, hfl]
    have tv : List.take 16 (v.map pbyte) = v.map pbyte := List.take_of_length_le (by omega)
    refine Ev_in ?_
    repeat' (first
    | (with_reducible apply W_seq_k; intro nx hnx)
    | (with_reducible first | apply W_block | apply W_scope)
    | (with_reducible refine W_prune 51 ?_; simp only [prb, Nat.reducePow, Nat.reduceDiv, Nat.reduceMod, Nat.reduceBEq]; with_reducible apply W_region_l)
    | ((first | (with_reducible apply WL_op; intro nx hnx) | with_reducible refine Ev_out ?_ | (with_reducible refine pfresh_k hnm fun nm hnm => ?_; (try simp only [fmb] at hnm)) | (with_reducible refine pborn_mu hnm fun nm hnm => ?_; (try simp only [fmb] at hnm))); try (simp (maxSteps := 2000000) (disch := omega) only [evb, evd, eve, constPV, seqK, blockK, scopeK, pbound, pelems, PV.mem?, PV.one, PV.cells, peqs, peq1, pkeys, List.set, Value.cells, ↓popG_eq, ↓pop.eq_1, ↓List.getElem?_map, ↓List.getElem?_cons_zero, ↓List.getElem?_cons_succ, Value.oneCell', Nat.reduceAdd, Nat.reduceMul, Nat.reduceSub, Nat.reduceLeDiff, Nat.reduceEqDiff, ↓reduceIte, ne_eq, reduceCtorEq, forall_const, exists_and_left, exists_eq_left', eq_self, Nat.reduceLT, Int.reduceLT, Int.reduceLE, Int.reduceToNat, Int.reduceAdd, Int.reduceSub, Int.reduceNeg, hnm, Tryd.tf0, Tryd.tf3, Tryd.tf4, Tryd.tf5, Tryd.tf9, Tryd.tf23, Tryd.tf29, Tryd.tf45, Tryd.call21, Tryd.call22, hca, hd2, ho, hl2, tv]); repeat (refine And.intro (by omega) ?_))
    | ((with_reducible first | apply WL_nil | apply W_label | apply W_skip | apply W_exit | apply W_ret); try simp only [seqK, blockK, scopeK, ↓reduceIte, Nat.reduceEqDiff])
    | (with_reducible apply pguard_intro <;> (intro hc; (try simp only [hcb, reduceCtorEq, forall_const, ne_eq] at hc); first | (exfalso; omega) | (exfalso; exact hc trivial) | refine Ev_in ?_))
    | (with_reducible apply W_cond_k; intro _ _ ea eb; (simp only [condK, cob, opnd, constPV, Nat.reduceEqDiff, Nat.reduceLT, ↓reduceIte, hcb, reduceCtorEq, forall_const, ne_eq]); subst ea eb; first | (refine ⟨fun hc => ?_, fun hc => ?_⟩ <;> first | (exfalso; omega) | (exfalso; exact hc trivial) | skip) | skip)
    | (with_reducible apply hnx; clear hnx nx)
    | (with_reducible refine And.intro (by omega) ?_)
    | (with_reducible refine And.intro ?_ ?_)
    | ((refine pcall_mid [] (HM a m M s seed []) [_] rfl cn ?_; intro r1 H1 hr1; obtain ⟨rfl, T1, rfl⟩ := hRf _ _ hr1; refine Ev_in ?_))
    | (clear hnx nx; with_reducible apply hnx; clear hnx nx)
    | (clear hnx nx; clear hnx nx; with_reducible apply hnx; clear hnx nx))
    all_goals first
      | exact absurd trivial hc
      | exact rfl
      | (exfalso
         omega)
      | (refine hfin _ _ ?_
         exact Fin_dig2 (n := NT) (by simp only [fr_getD_cons, Nat.reduceEqDiff, Nat.reduceLT, ↓reduceIte]) (by simp [look, hd2]) hfl (by simp only [fr_getD_cons, Nat.reduceEqDiff, Nat.reduceLT, ↓reduceIte]) ⟨rfl, rfl⟩)
  · have hp : pubF seed n = (List.replicate 16 0, 1) := by rw [pubF, if_neg hf]
    simp only [hp] at hfin
    by_cases hl : seed.length = 32
    · have hv : ¬ (0 ≤ n ∧ n ≤ 6) := fun h => hf ⟨hl, h⟩
      rw [decide_eq_false hv] at c0
      repeat' (first
    | (with_reducible apply W_seq_k; intro nx hnx)
    | (with_reducible first | apply W_block | apply W_scope)
    | (with_reducible refine W_prune 51 ?_; simp only [prb, Nat.reducePow, Nat.reduceDiv, Nat.reduceMod, Nat.reduceBEq]; with_reducible apply W_region_l)
    | ((first | (with_reducible apply WL_op; intro nx hnx) | with_reducible refine Ev_out ?_ | (with_reducible refine pfresh_k hnm fun nm hnm => ?_; (try simp only [fmb] at hnm)) | (with_reducible refine pborn_mu hnm fun nm hnm => ?_; (try simp only [fmb] at hnm))); try (simp (maxSteps := 2000000) (disch := omega) only [evb, evd, eve, constPV, seqK, blockK, scopeK, pbound, pelems, PV.mem?, PV.one, PV.cells, peqs, peq1, pkeys, List.set, Value.cells, ↓popG_eq, ↓pop.eq_1, ↓List.getElem?_map, ↓List.getElem?_cons_zero, ↓List.getElem?_cons_succ, Value.oneCell', Nat.reduceAdd, Nat.reduceMul, Nat.reduceSub, Nat.reduceLeDiff, Nat.reduceEqDiff, ↓reduceIte, ne_eq, reduceCtorEq, forall_const, exists_and_left, exists_eq_left', eq_self, Nat.reduceLT, Int.reduceLT, Int.reduceLE, Int.reduceToNat, Int.reduceAdd, Int.reduceSub, Int.reduceNeg, hnm, Tryd.tf0, Tryd.tf3, Tryd.tf4, Tryd.tf5, Tryd.tf9, Tryd.tf23, Tryd.tf29, Tryd.tf45, Tryd.call21, Tryd.call22, hl]); repeat (refine And.intro (by omega) ?_))
    | ((with_reducible first | apply WL_nil | apply W_label | apply W_skip | apply W_exit | apply W_ret); try simp only [seqK, blockK, scopeK, ↓reduceIte, Nat.reduceEqDiff])
    | (with_reducible apply pguard_intro <;> (intro hc; (try simp only [hcb, reduceCtorEq, forall_const, ne_eq] at hc); first | (exfalso; omega) | (exfalso; exact hc trivial) | refine Ev_in ?_))
    | (with_reducible apply W_cond_k; intro _ _ ea eb; (simp only [condK, cob, opnd, constPV, Nat.reduceEqDiff, Nat.reduceLT, ↓reduceIte, hcb, reduceCtorEq, forall_const, ne_eq]); subst ea eb; first | (refine ⟨fun hc => ?_, fun hc => ?_⟩ <;> first | (exfalso; omega) | (exfalso; exact hc trivial) | skip) | skip)
    | (with_reducible apply hnx; clear hnx nx)
    | (with_reducible refine And.intro (by omega) ?_)
    | (with_reducible refine And.intro ?_ ?_)
    | (with_reducible refine pcall_k (c0) ?_; rintro _ _ ⟨rfl, rfl⟩ -; refine Ev_in ?_)
    | (clear hnx nx; with_reducible apply hnx; clear hnx nx)
    | (clear hnx nx; clear hnx nx; with_reducible apply hnx; clear hnx nx))
      all_goals first
        | exact absurd trivial hc
        | exact rfl
        | (exfalso
           omega)
        | (intro hh
           exfalso
           simp at hh
           done)
        | (refine hfin _ _ ?_
           exact Fin_dig2 (n := nm) (f := List.replicate 16 0) (by simp only [fr_getD_cons, Nat.reduceEqDiff, Nat.reduceLT, ↓reduceIte]) (by simp only [look, ↓reduceIte]; rfl) (by simp) (by simp only [fr_getD_cons, Nat.reduceEqDiff, Nat.reduceLT, ↓reduceIte]) ⟨rfl, rfl⟩)
    · have hl' : ¬ (seed.length : Int) = 32 := by omega
      repeat' (first
    | (with_reducible apply W_seq_k; intro nx hnx)
    | (with_reducible first | apply W_block | apply W_scope)
    | (with_reducible refine W_prune 51 ?_; simp only [prb, Nat.reducePow, Nat.reduceDiv, Nat.reduceMod, Nat.reduceBEq]; with_reducible apply W_region_l)
    | ((first | (with_reducible apply WL_op; intro nx hnx) | with_reducible refine Ev_out ?_ | (with_reducible refine pfresh_k hnm fun nm hnm => ?_; (try simp only [fmb] at hnm)) | (with_reducible refine pborn_mu hnm fun nm hnm => ?_; (try simp only [fmb] at hnm))); try (simp (maxSteps := 2000000) (disch := omega) only [evb, evd, eve, constPV, seqK, blockK, scopeK, pbound, pelems, PV.mem?, PV.one, PV.cells, peqs, peq1, pkeys, List.set, Value.cells, ↓popG_eq, ↓pop.eq_1, ↓List.getElem?_map, ↓List.getElem?_cons_zero, ↓List.getElem?_cons_succ, Value.oneCell', Nat.reduceAdd, Nat.reduceMul, Nat.reduceSub, Nat.reduceLeDiff, Nat.reduceEqDiff, ↓reduceIte, ne_eq, reduceCtorEq, forall_const, exists_and_left, exists_eq_left', eq_self, Nat.reduceLT, Int.reduceLT, Int.reduceLE, Int.reduceToNat, Int.reduceAdd, Int.reduceSub, Int.reduceNeg, hnm, Tryd.tf0, Tryd.tf3, Tryd.tf4, Tryd.tf5, Tryd.tf9, Tryd.tf23, Tryd.tf29, Tryd.tf45, Tryd.call21, Tryd.call22, hl', hl]); repeat (refine And.intro (by omega) ?_))
    | ((with_reducible first | apply WL_nil | apply W_label | apply W_skip | apply W_exit | apply W_ret); try simp only [seqK, blockK, scopeK, ↓reduceIte, Nat.reduceEqDiff])
    | (with_reducible apply pguard_intro <;> (intro hc; (try simp only [hcb, reduceCtorEq, forall_const, ne_eq] at hc); first | (exfalso; omega) | (exfalso; exact hc trivial) | refine Ev_in ?_))
    | (with_reducible apply W_cond_k; intro _ _ ea eb; (simp only [condK, cob, opnd, constPV, Nat.reduceEqDiff, Nat.reduceLT, ↓reduceIte, hcb, reduceCtorEq, forall_const, ne_eq]); subst ea eb; first | (refine ⟨fun hc => ?_, fun hc => ?_⟩ <;> first | (exfalso; omega) | (exfalso; exact hc trivial) | skip) | skip)
    | (with_reducible apply hnx; clear hnx nx)
    | (with_reducible refine And.intro (by omega) ?_)
    | (with_reducible refine And.intro ?_ ?_)
    | (with_reducible refine pcall_k (c0) ?_; rintro _ _ ⟨rfl, rfl⟩ -; refine Ev_in ?_)
    | (clear hnx nx; with_reducible apply hnx; clear hnx nx)
    | (clear hnx nx; clear hnx nx; with_reducible apply hnx; clear hnx nx))
      all_goals first
        | exact absurd trivial hc
        | exact rfl
        | (exfalso
           omega)
        | (intro hh
           exfalso
           simp at hh
           done)
        | (refine hfin _ _ ?_
           exact Fin_dig2 (n := nm) (f := List.replicate 16 0) (by simp only [fr_getD_cons, Nat.reduceEqDiff, Nat.reduceLT, ↓reduceIte]) (by simp only [look, ↓reduceIte]; rfl) (by simp) (by simp only [fr_getD_cons, Nat.reduceEqDiff, Nat.reduceLT, ↓reduceIte]) ⟨rfl, rfl⟩)
end Go.PM
