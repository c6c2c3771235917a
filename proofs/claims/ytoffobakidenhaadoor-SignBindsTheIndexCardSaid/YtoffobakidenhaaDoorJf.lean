/- Joined texts (Gl Gm Mi Me Mf Mg Mh Mj Ms Mp Mu Mv Mw Mx Mk Ye): the machine, the contracts, the laws. Conditions: none but those that each names. -/
import Derived.Test.YtoffobakidenhaaDoorJe
set_option linter.unusedSimpArgs false
set_option linter.unusedVariables false
namespace Go.PM
open Go.Proofs
attribute [local irreducible] W PCalls pcall pcallI WL
/-- The neighbour of a node. -/
def sib (i : Nat) : Nat := if i % 2 = 1 then i - 1 else i + 1
/-- What a signature tells of a chain. -/
def sigV (seed : List UInt8) (i : Int) (dg : List Nat) (c : Nat) : List UInt8 := advF i c 0 ((dg.getD c 0 : Nat) - 0 : Int).toNat (startF seed i c)
theorem sigV_len (seed : List UInt8) (i : Int) (dg : List Nat) (c : Nat) : (sigV seed i dg c).length = 16 := advF_len _ _ _ _ _ (startF_len _ _ _)
/-- The neighbours on the way to the root. -/
def patV (seed : List UInt8) (i l : Nat) : List UInt8 := nodeV seed l (sib (i / 2 ^ l))
theorem patV_len (seed : List UInt8) (i l : Nat) : (patV seed i l).length = 16 := nodeV_len _ _ _
/-- A signature that is made. -/
def sigT (seed : List UInt8) (h i : Nat) (m : List UInt8) : List UInt8 :=
  intB i ++ catF (sigV seed i (digF (digestF (nodeV seed h 0) i m))) 68 ++ catF (patV seed i) h
/-- What Sign answers. -/
def signF (seed : List UInt8) (n i : Int) (m : List UInt8) : List UInt8 × Int :=
  if ¬ (seed.length = 32 ∧ 0 ≤ n ∧ n ≤ 6) then ([], 1) else if i < 0 ∨ 2 ^ n.toNat ≤ i then ([], 23) else (sigT seed n.toNat i.toNat m, 0)
theorem digF_get (d : List UInt8) (c : Nat) (h : c < 68) : ((digF d).map pn')[c]? = some (pint .i64 ((digF d).getD c 0 : Nat)) := by
  rw [List.getElem?_map, List.getD_eq_getElem?_getD, List.getElem?_eq_getElem (by rw [digF_len]; exact h)]
  rfl
theorem digF_lt (d : List UInt8) (c : Nat) : (digF d).getD c 0 < 4 := by
  rw [List.getD_eq_getElem?_getD]
  cases h : (digF d)[c]? with
  | none => simp
  | some x =>
    have hm := List.mem_of_getElem? h
    simp only [digF, List.mem_append, List.mem_map, chk, List.mem_cons, List.not_mem_nil, or_false] at hm
    simp only [Option.getD_some]
    rcases hm with ⟨j, _, rfl⟩ | rfl | rfl | rfl | rfl
    · exact dig_lt _ _
    all_goals omega
end Go.PM

namespace Go.PM
open Go.Proofs
/-- A digest out of a signature's rest. -/
def restV (rest : List UInt8) (k : Nat) : List UInt8 := (rest.drop (16 * k)).take 16
theorem restV_len {rest : List UInt8} {n k : Nat} (h : rest.length = n * 16) (hk : k < n) : (restV rest k).length = 16 := by
  rw [restV, List.length_take, List.length_drop, h]
  have : k + 1 ≤ n := hk
  have := Nat.mul_le_mul_right 16 this
  omega
/-- The top of a chain, from where the signature has it. -/
def vfV (i : Int) (dg : List Nat) (rest : List UInt8) (c : Nat) : List UInt8 := advF i c (dg.getD c 0 : Nat) (3 - (dg.getD c 0 : Nat) : Int).toNat (restV rest c)
/-- The way from a leaf to the root. -/
def wayF (rest : List UInt8) (i : Nat) (v : List UInt8) : Nat → List UInt8
  | 0 => v
  | l + 1 => if (i / 2 ^ l) % 2 = 1 then nodeF (restV rest (68 + l)) (wayF rest i v l) else nodeF (wayF rest i v l) (restV rest (68 + l))
theorem wayF_len (rest : List UInt8) (i : Nat) (v : List UInt8) (hv : v.length = 16) : ∀ l, (wayF rest i v l).length = 16
  | 0 => hv
  | l + 1 => by
    rw [wayF]
    split <;> exact nodeF_len _ _
/-- The root that a signature leads to. -/
def rootF (p : List UInt8) (h i : Nat) (m rest : List UInt8) : List UInt8 := wayF rest i (leafF (vfV i (digF (digestF p i m)) rest)) h
/-- What Verify answers. -/
def verF (p : List UInt8) (n : Int) (m s : List UInt8) : Int × Int :=
  if ¬ (0 ≤ n ∧ n ≤ 6) then (0, 1) else if (gI s).2.2 ≠ 0 then (0, (gI s).2.2) else
  if (gI s).1 < 0 ∨ 2 ^ n.toNat ≤ (gI s).1 ∨ (s.drop (gI s).2.1).length ≠ (68 + n.toNat) * 16 then (0, 2) else
  if rootF p n.toNat (gI s).1.toNat m (s.drop (gI s).2.1) = p then ((gI s).1, 0) else (0, 10)
/-- A signature that is made leads to the root of the tree. -/
theorem advF_adv (i c : Int) : ∀ (a b : Nat) (t : Int) (v : List UInt8), advF i c (t + a) b (advF i c t a v) = advF i c t (a + b) v
  | 0, b, t, v => by
    rw [advF, Nat.zero_add]
    congr 1
    omega
  | a + 1, b, t, v => by
    rw [show a + 1 + b = (a + b) + 1 by omega, advF, advF, ← advF_adv i c a b (t + 1) (stepC i c t v)]
    congr 1
    omega
end Go.PM

namespace Go.PM
open Go.Proofs
attribute [local irreducible] W PCalls pcall pcallI WL
set_option maxRecDepth 100000 in
set_option maxHeartbeats 8000000 in
theorem value_c (G : Globs) (r : List UInt8) (n : Nat) (hr : r.length = n * 16) (hn : n ≤ 1000) (k : Nat) (hk : k < n) :
    PCalls Tryd.prog G 37 [pint .i64 k, .iptr [.list 1 (r.map pbyte)] 0] [] (fun res H => res = .agg ((restV r k).map pbyte) ∧ H = []) := by
  have hvl := restV_len hr hk
  have e1 : List.drop (16 * k) (List.take (16 * (k + 1)) (r.map pbyte)) = (restV r k).map pbyte := by
    rw [restV, List.map_take, List.map_drop, List.drop_take, show 16 * (k + 1) - 16 * k = 16 by omega]
  have hml : (r.map pbyte).length = n * 16 := by rw [List.length_map, hr]
  generalize restV r k = x at *
  have hxl : (x.map pbyte).length = 16 := by rw [List.length_map, hvl]
  have tx : List.take 16 (x.map pbyte) = x.map pbyte := List.take_of_length_le (by omega)
  have hxo := all_one_byte x
  have f1 : ((k : Int) * 16).toNat = 16 * k := by omega
  have f2 : (((k : Int) + 1) * 16).toNat = 16 * (k + 1) := by omega
  (refine PCalls_f Tryd.func37 rfl Tryd.ntmps37 Tryd.results37 (by simp) fun fin hfin => ?_; have hnm : True := trivial; simp (maxSteps := 2000000) (disch := omega) only [evb, evd, eve, constPV, seqK, blockK, scopeK, pbound, pelems, PV.mem?, PV.one, PV.cells, peqs, peq1, pkeys, List.set, Value.cells, ↓popG_eq, ↓pop.eq_1, ↓List.getElem?_map, ↓List.getElem?_cons_zero, ↓List.getElem?_cons_succ, Value.oneCell', Nat.reduceAdd, Nat.reduceMul, Nat.reduceSub, Nat.reduceLeDiff, Nat.reduceEqDiff, ↓reduceIte, ne_eq, reduceCtorEq, forall_const, exists_and_left, exists_eq_left', eq_self, Nat.reduceLT, Int.reduceLT, Int.reduceLE, Int.reduceToNat, Int.reduceAdd, Int.reduceSub, Int.reduceNeg, hnm, Tryd.tf0, Tryd.tf3, Tryd.tf5, Tryd.tf23, Tryd.tf52])
  repeat' (first
    | (with_reducible apply W_seq_k; intro nx hnx)
    | (with_reducible first | apply W_block | apply W_scope)
    | (with_reducible refine W_prune 11 ?_; simp only [prb, Nat.reducePow, Nat.reduceDiv, Nat.reduceMod, Nat.reduceBEq]; with_reducible apply W_region_l)
    | ((first | (with_reducible apply WL_op; intro nx hnx) | with_reducible refine Ev_out ?_ | (with_reducible refine pfresh_k hnm fun nm hnm => ?_; (try simp only [fmb] at hnm)) | (with_reducible refine pborn_mu hnm fun nm hnm => ?_; (try simp only [fmb] at hnm))); try (simp (maxSteps := 2000000) (disch := omega) only [evb, evd, eve, constPV, seqK, blockK, scopeK, pbound, pelems, PV.mem?, PV.one, PV.cells, peqs, peq1, pkeys, List.set, Value.cells, ↓popG_eq, ↓pop.eq_1, ↓List.getElem?_map, ↓List.getElem?_cons_zero, ↓List.getElem?_cons_succ, Value.oneCell', Nat.reduceAdd, Nat.reduceMul, Nat.reduceSub, Nat.reduceLeDiff, Nat.reduceEqDiff, ↓reduceIte, ne_eq, reduceCtorEq, forall_const, exists_and_left, exists_eq_left', eq_self, Nat.reduceLT, Int.reduceLT, Int.reduceLE, Int.reduceToNat, Int.reduceAdd, Int.reduceSub, Int.reduceNeg, hnm, Tryd.tf0, Tryd.tf3, Tryd.tf5, Tryd.tf23, Tryd.tf52, hml, hxl, tx, hxo, e1, f1, f2, flat_pb]); repeat (refine And.intro (by omega) ?_))
    | ((with_reducible first | apply WL_nil | apply W_label | apply W_skip | apply W_exit | apply W_ret); try simp only [seqK, blockK, scopeK, ↓reduceIte, Nat.reduceEqDiff])
    | (with_reducible apply W_cond_k; intro _ _ ea eb; (simp only [condK, cob, opnd, constPV, Nat.reduceEqDiff, Nat.reduceLT, ↓reduceIte, hcb, reduceCtorEq, forall_const, ne_eq]); subst ea eb; first | (refine ⟨fun hc => ?_, fun hc => ?_⟩ <;> first | (exfalso; omega) | (exfalso; exact hc trivial) | skip) | skip)
    | (with_reducible apply hnx; clear hnx nx)
    | (with_reducible refine And.intro (by omega) ?_)
    | (with_reducible refine And.intro ?_ ?_)
    | (clear hnx nx; with_reducible apply hnx; clear hnx nx)
    | (clear hnx nx; clear hnx nx; with_reducible apply hnx; clear hnx nx))
  all_goals first
    | exact rfl
    | (exfalso
       omega)
    | (refine hfin _ _ ?_
       exact Fin_dig (n := nm) (by simp only [fr_getD_cons, Nat.reduceEqDiff, Nat.reduceLT, ↓reduceIte]) (by simp [look, hnm]) hvl ⟨rfl, rfl⟩)
set_option maxRecDepth 100000 in
set_option maxHeartbeats 8000000 in
theorem chain_c (G : Globs) (hG : G 1 = .iptr (KS.map pw) 0) (r : List UInt8) (n : Nat) (hr : r.length = n * 16) (hn : n ≤ 1000) (hn2 : 68 ≤ n) (k : Int) (hk : inR k) (d : List UInt8) (c : Nat) (hc : c < 68) :
    PCalls Tryd.prog G 39 [pint .i64 c, .iptr [pint .i64 k] 0, .iptr [.list 1 ((digF d).map pn')] 0, .iptr [.func 37 [.iptr [.list 1 (r.map pbyte)] 0]] 0] []
      (fun res H => res = .agg ((vfV k (digF d) r c).map pbyte) ∧ H = []) := by
  have hcR : inR (c : Int) := ⟨by omega, by omega⟩
  have hg := digF_get d c hc
  have hgl := digF_lt d c
  have hqn := digF_len d
  generalize digF d = q at *
  have hg3 : (q.map pn').getD c PV.junk = pint .i64 (q.getD c 0 : Nat) := by rw [List.getD_eq_getElem?_getD, hg]; rfl
  have hq2 : (q.map pn').length = 68 := by rw [List.length_map, hqn]
  have d1 := value_c G r n hr hn c (by omega)
  have d2 := adv_c G hG k c (q.getD c 0 : Nat) 3 (restV r c) hk hcR (by omega) (by omega) (by omega) (by omega) (restV_len hr (by omega))
  rw [show advF k c (q.getD c 0 : Nat) (3 - ((q.getD c 0 : Nat) : Int)).toNat (restV r c) = vfV k q r c from rfl] at d2
  have hvl : (vfV k q r c).length = 16 := advF_len _ _ _ _ _ (restV_len hr (by omega))
  generalize vfV k q r c = x at *
  generalize restV r c = y0 at *
  generalize q.getD c 0 = x0 at *
  have hxl : (x.map pbyte).length = 16 := by rw [List.length_map, hvl]
  have tx : List.take 16 (x.map pbyte) = x.map pbyte := List.take_of_length_le (by omega)
  have hxo := all_one_byte x
  have hca : callable Tryd.prog 37 = true := by kernel_rfl
  (refine PCalls_f Tryd.func39 rfl Tryd.ntmps39 Tryd.results39 (by simp) fun fin hfin => ?_; have hnm : True := trivial; simp (maxSteps := 2000000) (disch := omega) only [evb, evd, eve, constPV, seqK, blockK, scopeK, pbound, pelems, PV.mem?, PV.one, PV.cells, peqs, peq1, pkeys, List.set, Value.cells, ↓popG_eq, ↓pop.eq_1, ↓List.getElem?_map, ↓List.getElem?_cons_zero, ↓List.getElem?_cons_succ, Value.oneCell', Nat.reduceAdd, Nat.reduceMul, Nat.reduceSub, Nat.reduceLeDiff, Nat.reduceEqDiff, ↓reduceIte, ne_eq, reduceCtorEq, forall_const, exists_and_left, exists_eq_left', eq_self, Nat.reduceLT, Int.reduceLT, Int.reduceLE, Int.reduceToNat, Int.reduceAdd, Int.reduceSub, Int.reduceNeg, hnm, Tryd.tf0, Tryd.tf3, Tryd.tf5, Tryd.tf23, Tryd.tf25, Tryd.tf69, Tryd.call27])
  repeat' (first
    | (with_reducible apply W_seq_k; intro nx hnx)
    | (with_reducible first | apply W_block | apply W_scope)
    | (with_reducible refine W_prune 47 ?_; simp only [prb, Nat.reducePow, Nat.reduceDiv, Nat.reduceMod, Nat.reduceBEq]; first | (with_reducible apply W_region_l) | with_reducible refine W_region_draw (id := 1) 3 (.op 0 true (.op 1 true (.op 2 true (.op 3 true (.op 4 true (.op 5 true (.op 6 true (.op 7 true (.op 8 true (.op 9 false (.op 10 false (.done)))))))))))) (by kernel_rfl) ?_)
    | ((first | (with_reducible apply WL_op; intro nx hnx) | with_reducible refine Ev_out ?_ | (with_reducible apply popsD_op; intro nx hnx) | (with_reducible refine popsD_alt ?_ ?_; intro nx hnx) | (with_reducible refine pfresh_k hnm fun nm hnm => ?_; (try simp only [fmb] at hnm)) | (with_reducible refine pborn_mu hnm fun nm hnm => ?_; (try simp only [fmb] at hnm))); try (simp (maxSteps := 2000000) (disch := omega) only [evb, evd, eve, constPV, seqK, blockK, scopeK, pbound, pelems, PV.mem?, PV.one, PV.cells, peqs, peq1, pkeys, List.set, Value.cells, ↓popG_eq, ↓pop.eq_1, ↓List.getElem?_map, ↓List.getElem?_cons_zero, ↓List.getElem?_cons_succ, Value.oneCell', Nat.reduceAdd, Nat.reduceMul, Nat.reduceSub, Nat.reduceLeDiff, Nat.reduceEqDiff, ↓reduceIte, ne_eq, reduceCtorEq, forall_const, exists_and_left, exists_eq_left', eq_self, Nat.reduceLT, Int.reduceLT, Int.reduceLE, Int.reduceToNat, Int.reduceAdd, Int.reduceSub, Int.reduceNeg, hnm, Tryd.tf0, Tryd.tf3, Tryd.tf5, Tryd.tf23, Tryd.tf25, Tryd.tf69, Tryd.call27, hca, hg, hg3, hq2, hxl, tx, hxo]); repeat (refine And.intro (by omega) ?_))
    | ((with_reducible first | apply WL_nil | apply W_label | apply W_skip | apply W_exit | apply W_ret | apply popsD_done); try simp only [seqK, blockK, scopeK, ↓reduceIte, Nat.reduceEqDiff])
    | with_reducible exact popsD_stop
    | (with_reducible apply W_cond_k; intro _ _ ea eb; (simp only [condK, cob, opnd, constPV, Nat.reduceEqDiff, Nat.reduceLT, ↓reduceIte, hcb, reduceCtorEq, forall_const, ne_eq]); subst ea eb; first | (refine ⟨fun hc => ?_, fun hc => ?_⟩ <;> first | (exfalso; omega) | (exfalso; exact hc trivial) | skip) | skip)
    | (with_reducible apply hnx; clear hnx nx)
    | (with_reducible refine And.intro (by omega) ?_)
    | (with_reducible refine And.intro ?_ ?_)
    | (with_reducible refine pcall_k (d1) ?_; rintro _ _ ⟨rfl, rfl⟩ -; refine Ev_in ?_)
    | (with_reducible refine pcall_k (d2) ?_; rintro _ _ ⟨rfl, rfl⟩ -; refine Ev_in ?_)
    | (clear hnx nx; with_reducible apply hnx; clear hnx nx)
    | (clear hnx nx; clear hnx nx; with_reducible apply hnx; clear hnx nx))
  all_goals first
    | exact rfl
    | (exfalso
       omega)
    | (refine hfin _ _ ?_
       exact Fin_dig (n := nm) (by simp only [fr_getD_cons, Nat.reduceEqDiff, Nat.reduceLT, ↓reduceIte]) (by simp [look, hnm]) hvl ⟨rfl, rfl⟩)
end Go.PM

namespace Go.PM
open Go.Proofs
attribute [local irreducible] W PCalls pcall pcallI WL
set_option maxRecDepth 100000 in
set_option maxHeartbeats 8000000 in
theorem top_c (G : Globs) (hG : G 1 = .iptr (KS.map pw) 0) (seed : List UInt8) (hs : seed.length ≤ 4000) (k : Int) (hk : inR k) (c : Nat) (hc : c < 68) :
    PCalls Tryd.prog G 45 [pint .i64 c, .iptr [pint .i64 k] 0, .iptr [pstr seed] 0] [] (fun res H => res = .agg ((topF seed k c).map pbyte) ∧ H = []) := by
  have hcR : inR (c : Int) := ⟨by omega, by omega⟩
  have c1 := start_c G hG seed hs k c hk hcR
  have c2 := adv_c G hG k c 0 3 (startF seed k c) hk hcR (by omega) (by omega) (by omega) (by omega) (startF_len _ _ _)
  rw [show advF k c 0 (3 - 0 : Int).toNat (startF seed k c) = topF seed k c from rfl] at c2
  have htl := topF_len seed k c
  generalize topF seed k c = t at *
  generalize startF seed k c = v at *
  have hone := all_one_byte t
  have hl2 : (t.map pbyte).length = 16 := by rw [List.length_map, htl]
  have tk : List.take 16 (t.map pbyte) = t.map pbyte := List.take_of_length_le (by omega)
  (refine PCalls_f Tryd.func45 rfl Tryd.ntmps45 Tryd.results45 (by simp) fun fin hfin => ?_; have hnm : True := trivial; simp (maxSteps := 2000000) (disch := omega) only [evb, evd, eve, constPV, seqK, blockK, scopeK, pbound, pelems, PV.mem?, PV.one, PV.cells, peqs, peq1, pkeys, List.set, Value.cells, ↓popG_eq, ↓pop.eq_1, ↓List.getElem?_map, ↓List.getElem?_cons_zero, ↓List.getElem?_cons_succ, Value.oneCell', Nat.reduceAdd, Nat.reduceMul, Nat.reduceSub, Nat.reduceLeDiff, Nat.reduceEqDiff, ↓reduceIte, ne_eq, reduceCtorEq, forall_const, exists_and_left, exists_eq_left', eq_self, Nat.reduceLT, Int.reduceLT, Int.reduceLE, Int.reduceToNat, Int.reduceAdd, Int.reduceSub, Int.reduceNeg, hnm, Tryd.tf0, Tryd.tf3, Tryd.tf5, Tryd.tf9, Tryd.tf23, Tryd.call27, Tryd.call28])
  repeat' (first
    | (with_reducible apply W_seq_k; intro nx hnx)
    | (with_reducible first | apply W_block | apply W_scope)
    | (with_reducible refine W_prune 23 ?_; simp only [prb, Nat.reducePow, Nat.reduceDiv, Nat.reduceMod, Nat.reduceBEq]; first | (with_reducible apply W_region_l) | with_reducible refine W_region_draw (id := 1) 2 (.op 0 true (.op 1 true (.op 2 true (.op 3 true (.op 4 true (.op 5 true (.op 6 false (.op 7 false (.done))))))))) (by kernel_rfl) ?_)
    | ((first | (with_reducible apply WL_op; intro nx hnx) | with_reducible refine Ev_out ?_ | (with_reducible apply popsD_op; intro nx hnx) | (with_reducible refine popsD_alt ?_ ?_; intro nx hnx) | (with_reducible refine pfresh_k hnm fun nm hnm => ?_; (try simp only [fmb] at hnm)) | (with_reducible refine pborn_mu hnm fun nm hnm => ?_; (try simp only [fmb] at hnm))); try (simp (maxSteps := 2000000) (disch := omega) only [evb, evd, eve, constPV, seqK, blockK, scopeK, pbound, pelems, PV.mem?, PV.one, PV.cells, peqs, peq1, pkeys, List.set, Value.cells, ↓popG_eq, ↓pop.eq_1, ↓List.getElem?_map, ↓List.getElem?_cons_zero, ↓List.getElem?_cons_succ, Value.oneCell', Nat.reduceAdd, Nat.reduceMul, Nat.reduceSub, Nat.reduceLeDiff, Nat.reduceEqDiff, ↓reduceIte, ne_eq, reduceCtorEq, forall_const, exists_and_left, exists_eq_left', eq_self, Nat.reduceLT, Int.reduceLT, Int.reduceLE, Int.reduceToNat, Int.reduceAdd, Int.reduceSub, Int.reduceNeg, hnm, Tryd.tf0, Tryd.tf3, Tryd.tf5, Tryd.tf9, Tryd.tf23, Tryd.call27, Tryd.call28, hone, hl2, tk]); repeat (refine And.intro (by omega) ?_))
    | ((with_reducible first | apply WL_nil | apply W_label | apply W_skip | apply W_exit | apply W_ret | apply popsD_done); try simp only [seqK, blockK, scopeK, ↓reduceIte, Nat.reduceEqDiff])
    | with_reducible exact popsD_stop
    | (with_reducible apply W_cond_k; intro _ _ ea eb; (simp only [condK, cob, opnd, constPV, Nat.reduceEqDiff, Nat.reduceLT, ↓reduceIte, hcb, reduceCtorEq, forall_const, ne_eq]); subst ea eb; first | (refine ⟨fun hc => ?_, fun hc => ?_⟩ <;> first | (exfalso; omega) | (exfalso; exact hc trivial) | skip) | skip)
    | (with_reducible apply hnx; clear hnx nx)
    | (with_reducible refine And.intro (by omega) ?_)
    | (with_reducible refine And.intro ?_ ?_)
    | (with_reducible refine pcall_k (c1) ?_; rintro _ _ ⟨rfl, rfl⟩ -; refine Ev_in ?_)
    | (with_reducible refine pcall_k (c2) ?_; rintro _ _ ⟨rfl, rfl⟩ -; refine Ev_in ?_)
    | (clear hnx nx; with_reducible apply hnx; clear hnx nx)
    | (clear hnx nx; clear hnx nx; with_reducible apply hnx; clear hnx nx))
  all_goals first
    | exact rfl
    | (exfalso
       omega)
    | (refine hfin _ _ ?_
       exact Fin_dig (n := nm) (by simp only [fr_getD_cons, Nat.reduceEqDiff, Nat.reduceLT, ↓reduceIte]) (by simp [look, hnm]) htl ⟨rfl, rfl⟩)
theorem Fin_digH {x : Tmp} {n : Int} {f : List UInt8} {R : PV → Heap → Prop} {σ : PState} {H : Heap} (hx : σ.frame.getD x .junk = .ptr n 0) (hl : look σ.heap n = some ⟨23, false, 0, f.map pbyte⟩) (hf : f.length = 16)
    (h2 : Sub H σ.heap) (h3 : R (.agg (f.map pbyte)) H) : Fin Tryd.prog [.cell x 23] R .ret σ := by
  have hone := all_one_byte f
  have htk : List.take 16 (f.map pbyte) = f.map pbyte := List.take_of_length_le (by rw [List.length_map]; omega)
  refine Fin_cell (res := .agg (f.map pbyte)) Tryd.tf23 (n := n) (off := 0) (o := ⟨23, false, 0, f.map pbyte⟩) hx hl ?_ h2 h3
  simp [pload, hf, htk, hone]
/-- The key of a node. -/
@[reducible] def keyV (l k : Nat) : Value := .agg #[.int .i64 l, .int .i64 k]
/-- The cells of the memory of nodes. -/
def memC (seed : List UInt8) (T : List (Nat × Nat)) : List PV := T.map fun x => .ent (.val (keyV x.1 x.2)) (.agg ((nodeV seed x.1 x.2).map pbyte))
theorem vsame_key (l k l' k' : Nat) : vsame (keyV l k) (keyV l' k') = some (decide ((l, k) = (l', k'))) := by
  simp only [vsame, keyV, List.toList_toArray, vsames, if_true, Option.some.injEq, Bool.and_true]
  rw [Bool.eq_iff_iff]
  simp only [Bool.and_eq_true, beq_iff_eq, decide_eq_true_eq, Prod.mk.injEq]
  omega
theorem mfind_mem (seed : List UInt8) (l k : Nat) : ∀ (T : List (Nat × Nat)) (i : Nat), (l, k) ∈ T → ∃ j, mfind (keyV l k) (memC seed T) i = some (some (i + j, .agg ((nodeV seed l k).map pbyte))) ∧ T[j]? = some (l, k)
  | [], _, h => absurd h (by simp)
  | x :: T, i, h => by
    obtain ⟨l', k'⟩ := x
    by_cases hx : (l, k) = (l', k')
    · cases hx
      refine ⟨0, ?_, rfl⟩
      simp only [memC, List.map_cons, mfind, vsame_key, decide_true, Nat.add_zero]
    · obtain ⟨j, h1, h2⟩ := mfind_mem seed l k T (i + 1) (by
        rcases List.mem_cons.1 h with h | h
        · exact absurd h hx
        · exact h)
      refine ⟨j + 1, ?_, by simpa using h2⟩
      simp only [memC, List.map_cons, mfind, vsame_key, decide_eq_false hx]
      rw [show i + (j + 1) = i + 1 + j by omega]
      exact h1
theorem mfind_not (seed : List UInt8) (l k : Nat) : ∀ (T : List (Nat × Nat)) (i : Nat), (l, k) ∉ T → mfind (keyV l k) (memC seed T) i = some none
  | [], _, _ => rfl
  | x :: T, i, h => by
    obtain ⟨l', k'⟩ := x
    have hx : ¬ (l, k) = (l', k') := fun e => h (e ▸ .head _)
    have ih := mfind_not seed l k T (i + 1) fun e => h (.tail _ e)
    simp only [memC, List.map_cons, mfind, vsame_key, decide_eq_false hx]
    exact ih
theorem memC_set (seed : List UInt8) (l k j : Nat) (T : List (Nat × Nat)) (h : T[j]? = some (l, k)) : (memC seed T).set j (.ent (.val (keyV l k)) (.agg ((nodeV seed l k).map pbyte))) = memC seed T := by
  refine List.ext_getElem? fun i => ?_
  rw [List.getElem?_set]
  split
  · rename_i e
    subst e
    have hj : (memC seed T)[j]? = some (.ent (.val (keyV l k)) (.agg ((nodeV seed l k).map pbyte))) := by simp [memC, h]
    have : j < (memC seed T).length := by
      rcases Nat.lt_or_ge j (memC seed T).length with h1 | h1
      · exact h1
      · rw [List.getElem?_eq_none h1] at hj
        cases hj
    rw [if_pos this, hj]
  · rfl
theorem memC_app (seed : List UInt8) (l k : Nat) (T : List (Nat × Nat)) : memC seed T ++ [.ent (.val (keyV l k)) (.agg ((nodeV seed l k).map pbyte))] = memC seed (T ++ [(l, k)]) := by
  simp [memC]
/-- What the function that nodes returns works on: itself, the memory, the seed. -/
@[reducible] def HM (a m M s : Int) (seed : List UInt8) (T : List (Nat × Nat)) : Heap :=
  [(a, ⟨45, false, 0, [.func 44 [.ptr m 0, .ptr s 0, .ptr a 0]]⟩), (m, ⟨73, false, 0, [.mp M]⟩), (M, ⟨73, false, 0, memC seed T⟩), (s, ⟨9, false, 0, [pstr seed]⟩)]
section
variable {G : Globs} {I : List Int}
end
end Go.PM

namespace Go.PM
open Go.Proofs
attribute [local irreducible] W PCalls pcall pcallI WL
theorem HM_ne {a m M s : Int} {seed : List UInt8} {T : List (Nat × Nat)} (nd : (names (HM a m M s seed T)).Nodup) :
    (a = m) = False ∧ (m = a) = False ∧ (a = M) = False ∧ (M = a) = False ∧ (a = s) = False ∧ (s = a) = False ∧ (m = M) = False ∧ (M = m) = False ∧ (m = s) = False ∧ (s = m) = False ∧ (M = s) = False ∧ (s = M) = False := by
  simp only [names, List.map_cons, List.map_nil, List.nodup_cons, List.mem_cons, List.not_mem_nil, or_false, not_or] at nd
  obtain ⟨⟨n1, n2, n3⟩, ⟨n4, n5⟩, n6, -⟩ := nd
  exact ⟨eq_false n1, eq_false fun e => n1 e.symm, eq_false n2, eq_false fun e => n2 e.symm, eq_false n3, eq_false fun e => n3 e.symm, eq_false n4, eq_false fun e => n4 e.symm, eq_false n5, eq_false fun e => n5 e.symm, eq_false n6, eq_false fun e => n6 e.symm⟩
/-- What a call of the function must answer. -/
@[reducible] def NRes (a m M s : Int) (seed : List UInt8) (l k : Nat) (res : PV) (H : Heap) : Prop := res = .agg ((nodeV seed l k).map pbyte) ∧ ∃ T', H = HM a m M s seed T'
set_option maxRecDepth 100000 in
set_option maxHeartbeats 8000000 in
theorem node_hit (G : Globs) (seed : List UInt8) (a m M s : Int) (l k : Nat) (T : List (Nat × Nat)) (hm : (l, k) ∈ T) :
    PCalls Tryd.prog G 44 [pint .i64 l, pint .i64 k, .ptr m 0, .ptr s 0, .ptr a 0] (HM a m M s seed T) (NRes a m M s seed l k) := by
  refine PCalls.nd fun nd => ?_
  have hne := HM_ne nd
  have hvl := nodeV_len seed l k
  have hone := all_one_byte (nodeV seed l k)
  have hl2 : ((nodeV seed l k).map pbyte).length = 16 := by rw [List.length_map, hvl]
  have tk : List.take 16 ((nodeV seed l k).map pbyte) = (nodeV seed l k).map pbyte := List.take_of_length_le (by omega)
  obtain ⟨Z, hZ⟩ : ∃ Z, Z = List.replicate 16 (pint .u8 0) := ⟨_, rfl⟩
  have hZ2 : [pint .u8 0, pint .u8 0, pint .u8 0, pint .u8 0, pint .u8 0, pint .u8 0, pint .u8 0, pint .u8 0, pint .u8 0, pint .u8 0, pint .u8 0, pint .u8 0, pint .u8 0, pint .u8 0, pint .u8 0, pint .u8 0] = Z := by rw [hZ]; rfl
  have hZl : Z.length = 16 := by rw [hZ]; rfl
  have hZd : List.drop 16 Z = [] := List.drop_of_length_le (by omega)
  have hZo : Z.all PV.one = true := by rw [hZ]; rfl
  obtain ⟨j, hm1, hm2⟩ := mfind_mem seed l k T 0 hm
  rw [Nat.zero_add] at hm1
  have hfin2 : NRes a m M s seed l k (.agg ((nodeV seed l k).map pbyte)) (HM a m M s seed T) := ⟨rfl, T, rfl⟩
  have hR : ∀ res H, NRes a m M s seed l k res H → NRes a m M s seed l k res H := fun _ _ h => h
  generalize NRes a m M s seed l k = R at *
  generalize nodeV seed l k = x at *
  (refine PCalls_f Tryd.func44 rfl Tryd.ntmps44 Tryd.results44 (by simp) fun fin hfin => ?_; have hnm : True := trivial; simp (maxSteps := 2000000) (disch := omega) only [evb, evd, eve, constPV, seqK, blockK, scopeK, pbound, pelems, PV.mem?, PV.one, PV.cells, peqs, peq1, pkeys, List.set, Value.cells, ↓popG_eq, ↓pop.eq_1, ↓List.getElem?_map, ↓List.getElem?_cons_zero, ↓List.getElem?_cons_succ, Value.oneCell', Nat.reduceAdd, Nat.reduceMul, Nat.reduceSub, Nat.reduceLeDiff, Nat.reduceEqDiff, ↓reduceIte, ne_eq, reduceCtorEq, forall_const, exists_and_left, exists_eq_left', eq_self, Nat.reduceLT, Int.reduceLT, Int.reduceLE, Int.reduceToNat, Int.reduceAdd, Int.reduceSub, Int.reduceNeg, hnm, Tryd.tf0, Tryd.tf1, Tryd.tf3, Tryd.tf4, Tryd.tf5, Tryd.tf23, Tryd.tf28, Tryd.tf45, Tryd.tf69, Tryd.tf73, Tryd.tf74, Tryd.call38, Tryd.call40])
  repeat' (first
    | (with_reducible apply W_seq_k; intro nx hnx)
    | (with_reducible first | apply W_block | apply W_scope)
    | (with_reducible refine W_prune 2015 ?_; simp only [prb, Nat.reducePow, Nat.reduceDiv, Nat.reduceMod, Nat.reduceBEq]; first | (with_reducible apply W_region_l) | with_reducible refine W_region_draw (id := 7) 3 (.op 0 true (.op 1 true (.op 2 true (.op 3 true (.op 4 true (.op 7 true (.op 8 true (.alt 5 false (.alt 6 true (.alt 9 true (.op 10 true (.op 11 true (.op 12 false (.op 13 false (.op 14 false (.done)))))) .stop) (.alt 9 true (.op 10 true (.op 11 true (.alt 6 true (.op 12 false (.op 13 false (.op 14 false (.done)))) .stop))) .stop)) (.alt 6 true (.alt 5 false (.alt 9 true (.op 10 true (.op 11 true (.op 12 false (.op 13 false (.op 14 false (.done)))))) .stop) (.alt 9 true (.op 10 true (.op 11 true (.op 5 false (.op 12 false (.op 13 false (.op 14 false (.done))))))) .stop)) (.alt 9 true (.op 10 true (.op 11 true (.alt 5 false (.alt 6 true (.op 12 false (.op 13 false (.op 14 false (.done)))) .stop) (.alt 6 true (.op 5 false (.op 12 false (.op 13 false (.op 14 false (.done))))) .stop)))) .stop)))))))))) (by kernel_rfl) ?_)
    | ((first | (with_reducible apply WL_op; intro nx hnx) | with_reducible refine Ev_out ?_ | (with_reducible apply popsD_op; intro nx hnx) | (with_reducible refine popsD_alt ?_ ?_; intro nx hnx) | (with_reducible refine pfresh_k hnm fun nm hnm => ?_; (try simp only [fmb] at hnm)) | (with_reducible refine pborn_mu hnm fun nm hnm => ?_; (try simp only [fmb] at hnm))); try (simp (maxSteps := 2000000) (disch := omega) only [evb, evd, eve, constPV, seqK, blockK, scopeK, pbound, pelems, PV.mem?, PV.one, PV.cells, peqs, peq1, pkeys, List.set, Value.cells, ↓popG_eq, ↓pop.eq_1, ↓List.getElem?_map, ↓List.getElem?_cons_zero, ↓List.getElem?_cons_succ, Value.oneCell', Nat.reduceAdd, Nat.reduceMul, Nat.reduceSub, Nat.reduceLeDiff, Nat.reduceEqDiff, ↓reduceIte, ne_eq, reduceCtorEq, forall_const, exists_and_left, exists_eq_left', eq_self, Nat.reduceLT, Int.reduceLT, Int.reduceLE, Int.reduceToNat, Int.reduceAdd, Int.reduceSub, Int.reduceNeg, hnm, Tryd.tf0, Tryd.tf1, Tryd.tf3, Tryd.tf4, Tryd.tf5, Tryd.tf23, Tryd.tf28, Tryd.tf45, Tryd.tf69, Tryd.tf73, Tryd.tf74, Tryd.call38, Tryd.call40, hne, hone, hl2, tk, hm1, hZ2, hZl, hZd, hZo]); repeat (refine And.intro (by omega) ?_))
    | ((with_reducible first | apply WL_nil | apply W_label | apply W_skip | apply W_exit | apply W_ret | apply popsD_done); try simp only [seqK, blockK, scopeK, ↓reduceIte, Nat.reduceEqDiff])
    | with_reducible exact popsD_stop
    | (with_reducible apply W_cond_k; intro _ _ ea eb; (simp only [condK, cob, opnd, constPV, Nat.reduceEqDiff, Nat.reduceLT, ↓reduceIte, hcb, reduceCtorEq, forall_const, ne_eq]); subst ea eb; first | (refine ⟨fun hc => ?_, fun hc => ?_⟩ <;> first | (exfalso; omega) | (exfalso; exact hc trivial) | skip) | skip)
    | (with_reducible apply hnx; clear hnx nx)
    | (with_reducible refine And.intro (by omega) ?_)
    | (with_reducible refine And.intro ?_ ?_)
    | (clear hnx nx; with_reducible apply hnx; clear hnx nx)
    | (clear hnx nx; clear hnx nx; with_reducible apply hnx; clear hnx nx))
  all_goals first
    | exact rfl
    | (exfalso
       omega)
    | (refine hfin _ _ ?_
       exact Fin_digH (n := _) (by simp only [fr_getD_cons, Nat.reduceEqDiff, Nat.reduceLT, ↓reduceIte]; rfl) (by simp [look, hnm]) hvl ⟨by simp, nd⟩ hfin2)
set_option maxRecDepth 100000 in
set_option maxHeartbeats 8000000 in
theorem node_zero (G : Globs) (hG : G 1 = .iptr (KS.map pw) 0) (seed : List UInt8) (hs : seed.length ≤ 4000) (a m M s : Int) (k : Nat) (hk : k ≤ 1000000) (T : List (Nat × Nat)) (hm : (0, k) ∉ T) :
    PCalls Tryd.prog G 44 [pint .i64 (0 : Nat), pint .i64 k, .ptr m 0, .ptr s 0, .ptr a 0] (HM a m M s seed T) (NRes a m M s seed 0 k) := by
  refine PCalls.nd fun nd => ?_
  have hne := HM_ne nd
  have hvl := nodeV_len seed 0 k
  have hone := all_one_byte (nodeV seed 0 k)
  have hl2 : ((nodeV seed 0 k).map pbyte).length = 16 := by rw [List.length_map, hvl]
  have tk : List.take 16 ((nodeV seed 0 k).map pbyte) = (nodeV seed 0 k).map pbyte := List.take_of_length_le (by omega)
  obtain ⟨Z, hZ⟩ : ∃ Z, Z = List.replicate 16 (pint .u8 0) := ⟨_, rfl⟩
  have hZ2 : [pint .u8 0, pint .u8 0, pint .u8 0, pint .u8 0, pint .u8 0, pint .u8 0, pint .u8 0, pint .u8 0, pint .u8 0, pint .u8 0, pint .u8 0, pint .u8 0, pint .u8 0, pint .u8 0, pint .u8 0, pint .u8 0] = Z := by rw [hZ]; rfl
  have hZl : Z.length = 16 := by rw [hZ]; rfl
  have hZd : List.drop 16 Z = [] := List.drop_of_length_le (by omega)
  have hZo : Z.all PV.one = true := by rw [hZ]; rfl
  have hm1 : mfind (.agg #[.int .i64 0, .int .i64 (k : Int)]) (memC seed T) 0 = some none := mfind_not seed 0 k T 0 hm
  have hap : memC seed T ++ [.ent (.val (.agg #[.int .i64 0, .int .i64 (k : Int)])) (.agg ((nodeV seed 0 k).map pbyte))] = memC seed (T ++ [(0, k)]) := memC_app seed 0 k T
  have hkR : inR (k : Int) := ⟨by omega, by omega⟩
  have c1 := leaf_c G hG 45 [.iptr [pint .i64 k] 0, .iptr [pstr seed] 0] (topF seed k) (fun c _ => topF_len _ _ _) (by kernel_rfl) (fun c hc => top_c G hG seed hs k hkR c hc)
  rw [show leafF (topF seed k) = nodeV seed 0 k from rfl] at c1
  have hfin2 : NRes a m M s seed 0 k (.agg ((nodeV seed 0 k).map pbyte)) (HM a m M s seed (T ++ [(0, k)])) := ⟨rfl, _, rfl⟩
  have hR : ∀ res H, NRes a m M s seed 0 k res H → NRes a m M s seed 0 k res H := fun _ _ h => h
  generalize NRes a m M s seed 0 k = R at *
  generalize nodeV seed 0 k = x at *
  (refine PCalls_f Tryd.func44 rfl Tryd.ntmps44 Tryd.results44 (by simp) fun fin hfin => ?_; have hnm : True := trivial; simp (maxSteps := 2000000) (disch := omega) only [evb, evd, eve, constPV, seqK, blockK, scopeK, pbound, pelems, PV.mem?, PV.one, PV.cells, peqs, peq1, pkeys, List.set, Value.cells, ↓popG_eq, ↓pop.eq_1, ↓List.getElem?_map, ↓List.getElem?_cons_zero, ↓List.getElem?_cons_succ, Value.oneCell', Nat.reduceAdd, Nat.reduceMul, Nat.reduceSub, Nat.reduceLeDiff, Nat.reduceEqDiff, ↓reduceIte, ne_eq, reduceCtorEq, forall_const, exists_and_left, exists_eq_left', eq_self, Nat.reduceLT, Int.reduceLT, Int.reduceLE, Int.reduceToNat, Int.reduceAdd, Int.reduceSub, Int.reduceNeg, hnm, Tryd.tf0, Tryd.tf1, Tryd.tf3, Tryd.tf4, Tryd.tf5, Tryd.tf23, Tryd.tf28, Tryd.tf45, Tryd.tf69, Tryd.tf73, Tryd.tf74, Tryd.call38, Tryd.call40])
  repeat' (first
    | (with_reducible apply W_seq_k; intro nx hnx)
    | (with_reducible first | apply W_block | apply W_scope)
    | (with_reducible refine W_prune 2015 ?_; simp only [prb, Nat.reducePow, Nat.reduceDiv, Nat.reduceMod, Nat.reduceBEq]; first | (with_reducible apply W_region_l) | with_reducible refine W_region_draw (id := 7) 3 (.op 0 true (.op 1 true (.op 2 true (.op 3 true (.op 4 true (.op 7 true (.op 8 true (.alt 5 false (.alt 6 true (.alt 9 true (.op 10 true (.op 11 true (.op 12 false (.op 13 false (.op 14 false (.done)))))) .stop) (.alt 9 true (.op 10 true (.op 11 true (.alt 6 true (.op 12 false (.op 13 false (.op 14 false (.done)))) .stop))) .stop)) (.alt 6 true (.alt 5 false (.alt 9 true (.op 10 true (.op 11 true (.op 12 false (.op 13 false (.op 14 false (.done)))))) .stop) (.alt 9 true (.op 10 true (.op 11 true (.op 5 false (.op 12 false (.op 13 false (.op 14 false (.done))))))) .stop)) (.alt 9 true (.op 10 true (.op 11 true (.alt 5 false (.alt 6 true (.op 12 false (.op 13 false (.op 14 false (.done)))) .stop) (.alt 6 true (.op 5 false (.op 12 false (.op 13 false (.op 14 false (.done))))) .stop)))) .stop)))))))))) (by kernel_rfl) ?_)
    | ((first | (with_reducible apply WL_op; intro nx hnx) | with_reducible refine Ev_out ?_ | (with_reducible apply popsD_op; intro nx hnx) | (with_reducible refine popsD_alt ?_ ?_; intro nx hnx) | (with_reducible refine pfresh_k hnm fun nm hnm => ?_; (try simp only [fmb] at hnm)) | (with_reducible refine pborn_mu hnm fun nm hnm => ?_; (try simp only [fmb] at hnm))); try (simp (maxSteps := 2000000) (disch := omega) only [evb, evd, eve, constPV, seqK, blockK, scopeK, pbound, pelems, PV.mem?, PV.one, PV.cells, peqs, peq1, pkeys, List.set, Value.cells, ↓popG_eq, ↓pop.eq_1, ↓List.getElem?_map, ↓List.getElem?_cons_zero, ↓List.getElem?_cons_succ, Value.oneCell', Nat.reduceAdd, Nat.reduceMul, Nat.reduceSub, Nat.reduceLeDiff, Nat.reduceEqDiff, ↓reduceIte, ne_eq, reduceCtorEq, forall_const, exists_and_left, exists_eq_left', eq_self, Nat.reduceLT, Int.reduceLT, Int.reduceLE, Int.reduceToNat, Int.reduceAdd, Int.reduceSub, Int.reduceNeg, hnm, Tryd.tf0, Tryd.tf1, Tryd.tf3, Tryd.tf4, Tryd.tf5, Tryd.tf23, Tryd.tf28, Tryd.tf45, Tryd.tf69, Tryd.tf73, Tryd.tf74, Tryd.call38, Tryd.call40, hne, hm1, hZ2, hZl, hZd, hZo]); repeat (refine And.intro (by omega) ?_))
    | ((with_reducible first | apply WL_nil | apply W_label | apply W_skip | apply W_exit | apply W_ret | apply popsD_done); try simp only [seqK, blockK, scopeK, ↓reduceIte, Nat.reduceEqDiff])
    | with_reducible exact popsD_stop
    | (with_reducible apply W_cond_k; intro _ _ ea eb; (simp only [condK, cob, opnd, constPV, Nat.reduceEqDiff, Nat.reduceLT, ↓reduceIte, hcb, reduceCtorEq, forall_const, ne_eq]); subst ea eb; first | (refine ⟨fun hc => ?_, fun hc => ?_⟩ <;> first | (exfalso; omega) | (exfalso; exact hc trivial) | skip) | skip)
    | (with_reducible apply hnx; clear hnx nx)
    | (with_reducible refine And.intro (by omega) ?_)
    | (with_reducible refine And.intro ?_ ?_)
    | (clear hnx nx; with_reducible apply hnx; clear hnx nx)
    | (clear hnx nx; clear hnx nx; with_reducible apply hnx; clear hnx nx))
  obtain ⟨N10, hN10⟩ : ∃ N, N = nm := ⟨_, rfl⟩
  subst hN10
  obtain ⟨N8, hN8⟩ : ∃ N, N = nm := ⟨_, rfl⟩
  subst hN8
  obtain ⟨N7, hN7⟩ : ∃ N, N = nm := ⟨_, rfl⟩
  subst hN7
  obtain ⟨N6, hN6⟩ : ∃ N, N = nm := ⟨_, rfl⟩
  subst hN6
  refine pcall_lend2 (R := fun res H => res = .agg (x.map pbyte) ∧ H = []) N6 s ⟨3, false, 0, [pint .i64 k]⟩ ⟨9, false, 0, [pstr seed]⟩ (by simp [look, hnm, hne]) (by simp [look, hnm, hne]) ?_ ?_
  · have e : ([PV.func 45 [.ptr N6 0, .ptr s 0]].map fun p => frz s [pstr seed] (frz N6 [pint .i64 k] p)) = [.func 45 [.iptr [pint .i64 k] 0, .iptr [pstr seed] 0]] := by
      simp [frz, frz1, hnm, hne]
    rw [e]
    exact c1
  · rintro _ _ ⟨rfl, rfl⟩
    refine ⟨rfl, Flat_all fun c hc => ?_, ?_⟩
    · obtain ⟨b, _, rfl⟩ := List.mem_map.1 hc
      exact ⟨_, rfl⟩
    refine Ev_in ?_
    repeat' (first
    | (with_reducible apply W_seq_k; intro nx hnx)
    | (with_reducible first | apply W_block | apply W_scope)
    | (with_reducible refine W_prune 2015 ?_; simp only [prb, Nat.reducePow, Nat.reduceDiv, Nat.reduceMod, Nat.reduceBEq]; first | (with_reducible apply W_region_l) | with_reducible refine W_region_draw (id := 7) 3 (.op 0 true (.op 1 true (.op 2 true (.op 3 true (.op 4 true (.op 7 true (.op 8 true (.alt 5 false (.alt 6 true (.alt 9 true (.op 10 true (.op 11 true (.op 12 false (.op 13 false (.op 14 false (.done)))))) .stop) (.alt 9 true (.op 10 true (.op 11 true (.alt 6 true (.op 12 false (.op 13 false (.op 14 false (.done)))) .stop))) .stop)) (.alt 6 true (.alt 5 false (.alt 9 true (.op 10 true (.op 11 true (.op 12 false (.op 13 false (.op 14 false (.done)))))) .stop) (.alt 9 true (.op 10 true (.op 11 true (.op 5 false (.op 12 false (.op 13 false (.op 14 false (.done))))))) .stop)) (.alt 9 true (.op 10 true (.op 11 true (.alt 5 false (.alt 6 true (.op 12 false (.op 13 false (.op 14 false (.done)))) .stop) (.alt 6 true (.op 5 false (.op 12 false (.op 13 false (.op 14 false (.done))))) .stop)))) .stop)))))))))) (by kernel_rfl) ?_)
    | ((first | (with_reducible apply WL_op; intro nx hnx) | with_reducible refine Ev_out ?_ | (with_reducible apply popsD_op; intro nx hnx) | (with_reducible refine popsD_alt ?_ ?_; intro nx hnx) | (with_reducible refine pfresh_k hnm fun nm hnm => ?_; (try simp only [fmb] at hnm)) | (with_reducible refine pborn_mu hnm fun nm hnm => ?_; (try simp only [fmb] at hnm))); try (simp (maxSteps := 2000000) (disch := omega) only [evb, evd, eve, constPV, seqK, blockK, scopeK, pbound, pelems, PV.mem?, PV.one, PV.cells, peqs, peq1, pkeys, List.set, Value.cells, ↓popG_eq, ↓pop.eq_1, ↓List.getElem?_map, ↓List.getElem?_cons_zero, ↓List.getElem?_cons_succ, Value.oneCell', Nat.reduceAdd, Nat.reduceMul, Nat.reduceSub, Nat.reduceLeDiff, Nat.reduceEqDiff, ↓reduceIte, ne_eq, reduceCtorEq, forall_const, exists_and_left, exists_eq_left', eq_self, Nat.reduceLT, Int.reduceLT, Int.reduceLE, Int.reduceToNat, Int.reduceAdd, Int.reduceSub, Int.reduceNeg, hnm, Tryd.tf0, Tryd.tf1, Tryd.tf3, Tryd.tf4, Tryd.tf5, Tryd.tf23, Tryd.tf28, Tryd.tf45, Tryd.tf69, Tryd.tf73, Tryd.tf74, Tryd.call38, Tryd.call40, hne, hone, hl2, tk, hm1, hap, hZ2, hZl, hZd, hZo]); repeat (refine And.intro (by omega) ?_))
    | ((with_reducible first | apply WL_nil | apply W_label | apply W_skip | apply W_exit | apply W_ret | apply popsD_done); try simp only [seqK, blockK, scopeK, ↓reduceIte, Nat.reduceEqDiff])
    | with_reducible exact popsD_stop
    | (with_reducible apply W_cond_k; intro _ _ ea eb; (simp only [condK, cob, opnd, constPV, Nat.reduceEqDiff, Nat.reduceLT, ↓reduceIte, hcb, reduceCtorEq, forall_const, ne_eq]); subst ea eb; first | (refine ⟨fun hc => ?_, fun hc => ?_⟩ <;> first | (exfalso; omega) | (exfalso; exact hc trivial) | skip) | skip)
    | (with_reducible apply hnx; clear hnx nx)
    | (with_reducible refine And.intro (by omega) ?_)
    | (with_reducible refine And.intro ?_ ?_)
    | (clear hnx nx; with_reducible apply hnx; clear hnx nx)
    | (clear hnx nx; clear hnx nx; with_reducible apply hnx; clear hnx nx))
    all_goals first
      | exact rfl
      | (exfalso
         omega)
      | (refine hfin _ _ ?_
         exact Fin_digH (n := N7) (H := HM a m M s seed (T ++ [(0, k)])) (by simp only [fr_getD_cons, Nat.reduceEqDiff, Nat.reduceLT, ↓reduceIte]) (by simp [look, hnm]) hvl ⟨by simp, nd⟩ hfin2)
set_option maxRecDepth 100000 in
set_option maxHeartbeats 8000000 in
theorem node_succ (G : Globs) (hG : G 1 = .iptr (KS.map pw) 0) (seed : List UInt8) (a m M s : Int) (l k n k1 k2 : Nat) (hl : l ≤ 5) (hk : k ≤ 1000000) (hn : n = l + 1) (hk1 : k1 = 2 * k) (hk2 : k2 = 2 * k + 1) (T : List (Nat × Nat)) (hm : (n, k) ∉ T)
    (ih1 : PCalls Tryd.prog G 44 [pint .i64 l, pint .i64 k1, .ptr m 0, .ptr s 0, .ptr a 0] (HM a m M s seed T) (NRes a m M s seed l k1))
    (ih2 : ∀ T', PCalls Tryd.prog G 44 [pint .i64 l, pint .i64 k2, .ptr m 0, .ptr s 0, .ptr a 0] (HM a m M s seed T') (NRes a m M s seed l k2)) :
    PCalls Tryd.prog G 44 [pint .i64 n, pint .i64 k, .ptr m 0, .ptr s 0, .ptr a 0] (HM a m M s seed T) (NRes a m M s seed n k) := by
  refine PCalls.nd fun nd => ?_
  have hne := HM_ne nd
  have hvl := nodeV_len seed n k
  have hone := all_one_byte (nodeV seed n k)
  have hl2 : ((nodeV seed n k).map pbyte).length = 16 := by rw [List.length_map, hvl]
  have tk : List.take 16 ((nodeV seed n k).map pbyte) = (nodeV seed n k).map pbyte := List.take_of_length_le (by omega)
  obtain ⟨Z, hZ⟩ : ∃ Z, Z = List.replicate 16 (pint .u8 0) := ⟨_, rfl⟩
  have hZ2 : [pint .u8 0, pint .u8 0, pint .u8 0, pint .u8 0, pint .u8 0, pint .u8 0, pint .u8 0, pint .u8 0, pint .u8 0, pint .u8 0, pint .u8 0, pint .u8 0, pint .u8 0, pint .u8 0, pint .u8 0, pint .u8 0] = Z := by rw [hZ]; rfl
  have hZl : Z.length = 16 := by rw [hZ]; rfl
  have hZd : List.drop 16 Z = [] := List.drop_of_length_le (by omega)
  have hZo : Z.all PV.one = true := by rw [hZ]; rfl
  have hm1 : mfind (.agg #[.int .i64 (n : Int), .int .i64 (k : Int)]) (memC seed T) 0 = some none := mfind_not seed n k T 0 hm
  have hap : ∀ T', memC seed T' ++ [.ent (.val (.agg #[.int .i64 (n : Int), .int .i64 (k : Int)])) (.agg ((nodeV seed n k).map pbyte))] = memC seed (T' ++ [(n, k)]) := memC_app seed n k
  have hmN : ∀ T', (n, k) ∉ T' → mfind (.agg #[.int .i64 (n : Int), .int .i64 (k : Int)]) (memC seed T') 0 = some none := fun T' h => mfind_not seed n k T' 0 h
  have hmY : ∀ T', (n, k) ∈ T' → ∃ j, mfind (.agg #[.int .i64 (n : Int), .int .i64 (k : Int)]) (memC seed T') 0 = some (some (j, .agg ((nodeV seed n k).map pbyte))) ∧
      (memC seed T').set j (.ent (.val (.agg #[.int .i64 (n : Int), .int .i64 (k : Int)])) (.agg ((nodeV seed n k).map pbyte))) = memC seed T' := fun T' h => by
    obtain ⟨j, h1, h2⟩ := mfind_mem seed n k T' 0 h
    rw [Nat.zero_add] at h1
    exact ⟨j, h1, memC_set seed n k j T' h2⟩
  have c1 := node_c G hG (nodeV seed l k1) (nodeV seed l k2) (nodeV_len _ _ _) (nodeV_len _ _ _)
  rw [show nodeF (nodeV seed l k1) (nodeV seed l k2) = nodeV seed n k by rw [hn, hk1, hk2]; rfl] at c1
  have hfin2 : ∀ T', NRes a m M s seed n k (.agg ((nodeV seed n k).map pbyte)) (HM a m M s seed T') := fun T' => ⟨rfl, T', rfl⟩
  have g0 : ¬ n = 0 := by omega
  have hca : callable Tryd.prog 44 = true := by kernel_rfl
  have g1 : (n : Int) - 1 = (l : Int) := by omega
  have g2 : 2 * (k : Int) = (k1 : Int) := by omega
  have g3 : (k1 : Int) + 1 = (k2 : Int) := by omega
  generalize NRes a m M s seed n k = R at *
  generalize nodeV seed n k = x at *
  (refine PCalls_f Tryd.func44 rfl Tryd.ntmps44 Tryd.results44 (by simp) fun fin hfin => ?_; have hnm : True := trivial; simp (maxSteps := 2000000) (disch := omega) only [evb, evd, eve, constPV, seqK, blockK, scopeK, pbound, pelems, PV.mem?, PV.one, PV.cells, peqs, peq1, pkeys, List.set, Value.cells, ↓popG_eq, ↓pop.eq_1, ↓List.getElem?_map, ↓List.getElem?_cons_zero, ↓List.getElem?_cons_succ, Value.oneCell', Nat.reduceAdd, Nat.reduceMul, Nat.reduceSub, Nat.reduceLeDiff, Nat.reduceEqDiff, ↓reduceIte, ne_eq, reduceCtorEq, forall_const, exists_and_left, exists_eq_left', eq_self, Nat.reduceLT, Int.reduceLT, Int.reduceLE, Int.reduceToNat, Int.reduceAdd, Int.reduceSub, Int.reduceNeg, hnm, Tryd.tf0, Tryd.tf1, Tryd.tf3, Tryd.tf4, Tryd.tf5, Tryd.tf23, Tryd.tf28, Tryd.tf45, Tryd.tf69, Tryd.tf73, Tryd.tf74, Tryd.call38, Tryd.call40])
  repeat' (first
    | (with_reducible apply W_seq_k; intro nx hnx)
    | (with_reducible first | apply W_block | apply W_scope)
    | (with_reducible refine W_prune 2015 ?_; simp only [prb, Nat.reducePow, Nat.reduceDiv, Nat.reduceMod, Nat.reduceBEq]; first | (with_reducible apply W_region_l) | with_reducible refine W_region_draw (id := 7) 3 (.op 0 true (.op 1 true (.op 2 true (.op 3 true (.op 4 true (.op 7 true (.op 8 true (.alt 5 false (.alt 6 true (.alt 9 true (.op 10 true (.op 11 true (.op 12 false (.op 13 false (.op 14 false (.done)))))) .stop) (.alt 9 true (.op 10 true (.op 11 true (.alt 6 true (.op 12 false (.op 13 false (.op 14 false (.done)))) .stop))) .stop)) (.alt 6 true (.alt 5 false (.alt 9 true (.op 10 true (.op 11 true (.op 12 false (.op 13 false (.op 14 false (.done)))))) .stop) (.alt 9 true (.op 10 true (.op 11 true (.op 5 false (.op 12 false (.op 13 false (.op 14 false (.done))))))) .stop)) (.alt 9 true (.op 10 true (.op 11 true (.alt 5 false (.alt 6 true (.op 12 false (.op 13 false (.op 14 false (.done)))) .stop) (.alt 6 true (.op 5 false (.op 12 false (.op 13 false (.op 14 false (.done))))) .stop)))) .stop)))))))))) (by kernel_rfl) ?_)
    | ((first | (with_reducible apply WL_op; intro nx hnx) | with_reducible refine Ev_out ?_ | (with_reducible apply popsD_op; intro nx hnx) | (with_reducible refine popsD_alt ?_ ?_; intro nx hnx) | (with_reducible refine pfresh_k hnm fun nm hnm => ?_; (try simp only [fmb] at hnm)) | (with_reducible refine pborn_mu hnm fun nm hnm => ?_; (try simp only [fmb] at hnm))); try (simp (maxSteps := 2000000) (disch := omega) only [evb, evd, eve, constPV, seqK, blockK, scopeK, pbound, pelems, PV.mem?, PV.one, PV.cells, peqs, peq1, pkeys, List.set, Value.cells, ↓popG_eq, ↓pop.eq_1, ↓List.getElem?_map, ↓List.getElem?_cons_zero, ↓List.getElem?_cons_succ, Value.oneCell', Nat.reduceAdd, Nat.reduceMul, Nat.reduceSub, Nat.reduceLeDiff, Nat.reduceEqDiff, ↓reduceIte, ne_eq, reduceCtorEq, forall_const, exists_and_left, exists_eq_left', eq_self, Nat.reduceLT, Int.reduceLT, Int.reduceLE, Int.reduceToNat, Int.reduceAdd, Int.reduceSub, Int.reduceNeg, hnm, Tryd.tf0, Tryd.tf1, Tryd.tf3, Tryd.tf4, Tryd.tf5, Tryd.tf23, Tryd.tf28, Tryd.tf45, Tryd.tf69, Tryd.tf73, Tryd.tf74, Tryd.call38, Tryd.call40, hne, hvl, hone, hl2, tk, hm1, hZ2, hZl, hZd, hZo, hca, g0, g1, g2, g3]); repeat (refine And.intro (by omega) ?_))
    | ((with_reducible first | apply WL_nil | apply W_label | apply W_skip | apply W_exit | apply W_ret | apply popsD_done); try simp only [seqK, blockK, scopeK, ↓reduceIte, Nat.reduceEqDiff])
    | with_reducible exact popsD_stop
    | (with_reducible apply W_cond_k; intro _ _ ea eb; (simp only [condK, cob, opnd, constPV, Nat.reduceEqDiff, Nat.reduceLT, ↓reduceIte, hcb, reduceCtorEq, forall_const, ne_eq]); subst ea eb; first | (refine ⟨fun hc => ?_, fun hc => ?_⟩ <;> first | (exfalso; omega) | (exfalso; exact hc trivial) | skip) | skip)
    | (with_reducible apply hnx; clear hnx nx)
    | (with_reducible refine And.intro (by omega) ?_)
    | (with_reducible refine And.intro ?_ ?_)
    | (with_reducible refine pcall_k (c1) ?_; rintro _ _ ⟨rfl, rfl⟩ -; refine Ev_in ?_)
    | ((refine pcall_mid [_, _, _, _] (HM a m M s seed _) [] rfl ih1 ?_; rintro _ _ ⟨rfl, T1, rfl⟩; refine Ev_in ?_))
    | ((refine pcall_mid [_, _, _, _] (HM a m M s seed _) [] rfl (ih2 _) ?_; rintro _ _ ⟨rfl, T2, rfl⟩; refine Ev_in ?_))
    | (clear hnx nx; with_reducible apply hnx; clear hnx nx)
    | (clear hnx nx; clear hnx nx; with_reducible apply hnx; clear hnx nx))
  all_goals first
    | exact rfl
    | (by_cases hm2 : (n, k) ∈ T2
       · obtain ⟨j, y1, y2⟩ := hmY T2 hm2
         simp only [y1]
         repeat' (first
    | (with_reducible apply W_seq_k; intro nx hnx)
    | (with_reducible first | apply W_block | apply W_scope)
    | (with_reducible refine W_prune 2015 ?_; simp only [prb, Nat.reducePow, Nat.reduceDiv, Nat.reduceMod, Nat.reduceBEq]; first | (with_reducible apply W_region_l) | with_reducible refine W_region_draw (id := 7) 3 (.op 0 true (.op 1 true (.op 2 true (.op 3 true (.op 4 true (.op 7 true (.op 8 true (.alt 5 false (.alt 6 true (.alt 9 true (.op 10 true (.op 11 true (.op 12 false (.op 13 false (.op 14 false (.done)))))) .stop) (.alt 9 true (.op 10 true (.op 11 true (.alt 6 true (.op 12 false (.op 13 false (.op 14 false (.done)))) .stop))) .stop)) (.alt 6 true (.alt 5 false (.alt 9 true (.op 10 true (.op 11 true (.op 12 false (.op 13 false (.op 14 false (.done)))))) .stop) (.alt 9 true (.op 10 true (.op 11 true (.op 5 false (.op 12 false (.op 13 false (.op 14 false (.done))))))) .stop)) (.alt 9 true (.op 10 true (.op 11 true (.alt 5 false (.alt 6 true (.op 12 false (.op 13 false (.op 14 false (.done)))) .stop) (.alt 6 true (.op 5 false (.op 12 false (.op 13 false (.op 14 false (.done))))) .stop)))) .stop)))))))))) (by kernel_rfl) ?_)
    | ((first | (with_reducible apply WL_op; intro nx hnx) | with_reducible refine Ev_out ?_ | (with_reducible apply popsD_op; intro nx hnx) | (with_reducible refine popsD_alt ?_ ?_; intro nx hnx) | (with_reducible refine pfresh_k hnm fun nm hnm => ?_; (try simp only [fmb] at hnm)) | (with_reducible refine pborn_mu hnm fun nm hnm => ?_; (try simp only [fmb] at hnm))); try (simp (maxSteps := 2000000) (disch := omega) only [evb, evd, eve, constPV, seqK, blockK, scopeK, pbound, pelems, PV.mem?, PV.one, PV.cells, peqs, peq1, pkeys, List.set, Value.cells, ↓popG_eq, ↓pop.eq_1, ↓List.getElem?_map, ↓List.getElem?_cons_zero, ↓List.getElem?_cons_succ, Value.oneCell', Nat.reduceAdd, Nat.reduceMul, Nat.reduceSub, Nat.reduceLeDiff, Nat.reduceEqDiff, ↓reduceIte, ne_eq, reduceCtorEq, forall_const, exists_and_left, exists_eq_left', eq_self, Nat.reduceLT, Int.reduceLT, Int.reduceLE, Int.reduceToNat, Int.reduceAdd, Int.reduceSub, Int.reduceNeg, hnm, Tryd.tf0, Tryd.tf1, Tryd.tf3, Tryd.tf4, Tryd.tf5, Tryd.tf23, Tryd.tf28, Tryd.tf45, Tryd.tf69, Tryd.tf73, Tryd.tf74, Tryd.call38, Tryd.call40, hne, hone, hl2, tk, y2, hZ2, hZl, hZd, hZo]); repeat (refine And.intro (by omega) ?_))
    | ((with_reducible first | apply WL_nil | apply W_label | apply W_skip | apply W_exit | apply W_ret | apply popsD_done); try simp only [seqK, blockK, scopeK, ↓reduceIte, Nat.reduceEqDiff])
    | with_reducible exact popsD_stop
    | (with_reducible apply W_cond_k; intro _ _ ea eb; (simp only [condK, cob, opnd, constPV, Nat.reduceEqDiff, Nat.reduceLT, ↓reduceIte, hcb, reduceCtorEq, forall_const, ne_eq]); subst ea eb; first | (refine ⟨fun hc => ?_, fun hc => ?_⟩ <;> first | (exfalso; omega) | (exfalso; exact hc trivial) | skip) | skip)
    | (with_reducible apply hnx; clear hnx nx)
    | (with_reducible refine And.intro (by omega) ?_)
    | (with_reducible refine And.intro ?_ ?_)
    | (clear hnx nx; with_reducible apply hnx; clear hnx nx)
    | (clear hnx nx; clear hnx nx; with_reducible apply hnx; clear hnx nx))
         all_goals first
           | exact rfl
           | (refine hfin _ _ ?_
              exact Fin_digH (n := _) (H := HM a m M s seed T2) (by simp only [fr_getD_cons, Nat.reduceEqDiff, Nat.reduceLT, ↓reduceIte]; rfl) (by simp [look, hnm]) hvl ⟨by simp, nd⟩ (hfin2 T2))
       · have y1 := hmN T2 hm2
         simp only [y1]
         have y2 := hap T2
         repeat' (first
    | (with_reducible apply W_seq_k; intro nx hnx)
    | (with_reducible first | apply W_block | apply W_scope)
    | (with_reducible refine W_prune 2015 ?_; simp only [prb, Nat.reducePow, Nat.reduceDiv, Nat.reduceMod, Nat.reduceBEq]; first | (with_reducible apply W_region_l) | with_reducible refine W_region_draw (id := 7) 3 (.op 0 true (.op 1 true (.op 2 true (.op 3 true (.op 4 true (.op 7 true (.op 8 true (.alt 5 false (.alt 6 true (.alt 9 true (.op 10 true (.op 11 true (.op 12 false (.op 13 false (.op 14 false (.done)))))) .stop) (.alt 9 true (.op 10 true (.op 11 true (.alt 6 true (.op 12 false (.op 13 false (.op 14 false (.done)))) .stop))) .stop)) (.alt 6 true (.alt 5 false (.alt 9 true (.op 10 true (.op 11 true (.op 12 false (.op 13 false (.op 14 false (.done)))))) .stop) (.alt 9 true (.op 10 true (.op 11 true (.op 5 false (.op 12 false (.op 13 false (.op 14 false (.done))))))) .stop)) (.alt 9 true (.op 10 true (.op 11 true (.alt 5 false (.alt 6 true (.op 12 false (.op 13 false (.op 14 false (.done)))) .stop) (.alt 6 true (.op 5 false (.op 12 false (.op 13 false (.op 14 false (.done))))) .stop)))) .stop)))))))))) (by kernel_rfl) ?_)
    | ((first | (with_reducible apply WL_op; intro nx hnx) | with_reducible refine Ev_out ?_ | (with_reducible apply popsD_op; intro nx hnx) | (with_reducible refine popsD_alt ?_ ?_; intro nx hnx) | (with_reducible refine pfresh_k hnm fun nm hnm => ?_; (try simp only [fmb] at hnm)) | (with_reducible refine pborn_mu hnm fun nm hnm => ?_; (try simp only [fmb] at hnm))); try (simp (maxSteps := 2000000) (disch := omega) only [evb, evd, eve, constPV, seqK, blockK, scopeK, pbound, pelems, PV.mem?, PV.one, PV.cells, peqs, peq1, pkeys, List.set, Value.cells, ↓popG_eq, ↓pop.eq_1, ↓List.getElem?_map, ↓List.getElem?_cons_zero, ↓List.getElem?_cons_succ, Value.oneCell', Nat.reduceAdd, Nat.reduceMul, Nat.reduceSub, Nat.reduceLeDiff, Nat.reduceEqDiff, ↓reduceIte, ne_eq, reduceCtorEq, forall_const, exists_and_left, exists_eq_left', eq_self, Nat.reduceLT, Int.reduceLT, Int.reduceLE, Int.reduceToNat, Int.reduceAdd, Int.reduceSub, Int.reduceNeg, hnm, Tryd.tf0, Tryd.tf1, Tryd.tf3, Tryd.tf4, Tryd.tf5, Tryd.tf23, Tryd.tf28, Tryd.tf45, Tryd.tf69, Tryd.tf73, Tryd.tf74, Tryd.call38, Tryd.call40, hne, hone, hl2, tk, y2, hZ2, hZl, hZd, hZo]); repeat (refine And.intro (by omega) ?_))
    | ((with_reducible first | apply WL_nil | apply W_label | apply W_skip | apply W_exit | apply W_ret | apply popsD_done); try simp only [seqK, blockK, scopeK, ↓reduceIte, Nat.reduceEqDiff])
    | with_reducible exact popsD_stop
    | (with_reducible apply W_cond_k; intro _ _ ea eb; (simp only [condK, cob, opnd, constPV, Nat.reduceEqDiff, Nat.reduceLT, ↓reduceIte, hcb, reduceCtorEq, forall_const, ne_eq]); subst ea eb; first | (refine ⟨fun hc => ?_, fun hc => ?_⟩ <;> first | (exfalso; omega) | (exfalso; exact hc trivial) | skip) | skip)
    | (with_reducible apply hnx; clear hnx nx)
    | (with_reducible refine And.intro (by omega) ?_)
    | (with_reducible refine And.intro ?_ ?_)
    | (clear hnx nx; with_reducible apply hnx; clear hnx nx)
    | (clear hnx nx; clear hnx nx; with_reducible apply hnx; clear hnx nx))
         all_goals first
           | exact rfl
           | (refine hfin _ _ ?_
              exact Fin_digH (n := _) (H := HM a m M s seed (T2 ++ [(n, k)])) (by simp only [fr_getD_cons, Nat.reduceEqDiff, Nat.reduceLT, ↓reduceIte]; rfl) (by simp [look, hnm]) hvl ⟨by simp, nd⟩ (hfin2 _)))
theorem node_at (G : Globs) (hG : G 1 = .iptr (KS.map pw) 0) (seed : List UInt8) (hs : seed.length ≤ 4000) (a m M s : Int) :
    ∀ (l k : Nat) (T : List (Nat × Nat)), l ≤ 6 → (k + 1) * 2 ^ l ≤ 1000000 → PCalls Tryd.prog G 44 [pint .i64 l, pint .i64 k, .ptr m 0, .ptr s 0, .ptr a 0] (HM a m M s seed T) (NRes a m M s seed l k)
  | l, k, T, hl, hk => by
    by_cases hm : (l, k) ∈ T
    · exact node_hit G seed a m M s l k T hm
    · match l, hl, hk, hm with
      | 0, hl, hk, hm => exact node_zero G hG seed hs a m M s k (by omega) T hm
      | l + 1, hl, hk, hm =>
        have hp : 0 < 2 ^ l := Nat.pow_pos (by omega)
        have hb : (2 * k + 1 + 1) * 2 ^ l ≤ 1000000 := by
          rw [Nat.pow_succ, Nat.mul_comm (2 ^ l) 2, ← Nat.mul_assoc] at hk
          rw [show 2 * k + 1 + 1 = (k + 1) * 2 by omega]
          exact hk
        have hb2 : (2 * k + 1) * 2 ^ l ≤ 1000000 := Nat.le_trans (Nat.mul_le_mul_right _ (by omega)) hb
        have hk6 : k ≤ 1000000 := by
          have : 2 * k + 1 + 1 ≤ (2 * k + 1 + 1) * 2 ^ l := Nat.le_mul_of_pos_right _ hp
          omega
        exact node_succ G hG seed a m M s l k (l + 1) (2 * k) (2 * k + 1) (by omega) hk6 rfl rfl rfl T hm (node_at G hG seed hs a m M s l (2 * k) T (by omega) hb2) (fun T' => node_at G hG seed hs a m M s l (2 * k + 1) T' (by omega) hb)
end Go.PM

namespace Go.PM
open Go.Proofs
attribute [local irreducible] W PCalls pcall pcallI WL
set_option maxRecDepth 100000 in
set_option maxHeartbeats 8000000 in
theorem nodes_c (G : Globs) (seed : List UInt8) : PCalls Tryd.prog G 22 [pstr seed] [] (fun res H => ∃ a m M s, res = .func 44 [.ptr m 0, .ptr s 0, .ptr a 0] ∧ H = HM a m M s seed []) := by
  (refine PCalls_f Tryd.func22 rfl Tryd.ntmps22 Tryd.results22 (by simp) fun fin hfin => ?_; have hnm : True := trivial; simp (maxSteps := 2000000) (disch := omega) only [evb, evd, eve, constPV, seqK, blockK, scopeK, pbound, pelems, PV.mem?, PV.one, PV.cells, peqs, peq1, pkeys, List.set, Value.cells, ↓popG_eq, ↓pop.eq_1, ↓List.getElem?_map, ↓List.getElem?_cons_zero, ↓List.getElem?_cons_succ, Value.oneCell', Nat.reduceAdd, Nat.reduceMul, Nat.reduceSub, Nat.reduceLeDiff, Nat.reduceEqDiff, ↓reduceIte, ne_eq, reduceCtorEq, forall_const, exists_and_left, exists_eq_left', eq_self, Nat.reduceLT, Int.reduceLT, Int.reduceLE, Int.reduceToNat, Int.reduceAdd, Int.reduceSub, Int.reduceNeg, hnm, Tryd.tf0, Tryd.tf9, Tryd.tf45, Tryd.tf73])
  repeat' (first
    | (with_reducible apply W_seq_k; intro nx hnx)
    | (with_reducible first | apply W_block | apply W_scope)
    | (with_reducible refine W_prune 31 ?_; simp only [prb, Nat.reducePow, Nat.reduceDiv, Nat.reduceMod, Nat.reduceBEq]; with_reducible apply W_region_l)
    | ((first | (with_reducible apply WL_op; intro nx hnx) | with_reducible refine Ev_out ?_ | (with_reducible refine pfresh_k hnm fun nm hnm => ?_; (try simp only [fmb] at hnm)) | (with_reducible refine pborn_mu hnm fun nm hnm => ?_; (try simp only [fmb] at hnm))); try (simp (maxSteps := 2000000) (disch := omega) only [evb, evd, eve, constPV, seqK, blockK, scopeK, pbound, pelems, PV.mem?, PV.one, PV.cells, peqs, peq1, pkeys, List.set, Value.cells, ↓popG_eq, ↓pop.eq_1, ↓List.getElem?_map, ↓List.getElem?_cons_zero, ↓List.getElem?_cons_succ, Value.oneCell', Nat.reduceAdd, Nat.reduceMul, Nat.reduceSub, Nat.reduceLeDiff, Nat.reduceEqDiff, ↓reduceIte, ne_eq, reduceCtorEq, forall_const, exists_and_left, exists_eq_left', eq_self, Nat.reduceLT, Int.reduceLT, Int.reduceLE, Int.reduceToNat, Int.reduceAdd, Int.reduceSub, Int.reduceNeg, hnm, Tryd.tf0, Tryd.tf9, Tryd.tf45, Tryd.tf73]); repeat (refine And.intro (by omega) ?_))
    | ((with_reducible first | apply WL_nil | apply W_label | apply W_skip | apply W_exit | apply W_ret); try simp only [seqK, blockK, scopeK, ↓reduceIte, Nat.reduceEqDiff])
    | (with_reducible apply W_cond_k; intro _ _ ea eb; (simp only [condK, cob, opnd, constPV, Nat.reduceEqDiff, Nat.reduceLT, ↓reduceIte, hcb, reduceCtorEq, forall_const, ne_eq]); subst ea eb; first | (refine ⟨fun hc => ?_, fun hc => ?_⟩ <;> first | (exfalso; omega) | (exfalso; exact hc trivial) | skip) | skip)
    | (with_reducible apply hnx; clear hnx nx)
    | (with_reducible refine And.intro (by omega) ?_)
    | (with_reducible refine And.intro ?_ ?_)
    | (clear hnx nx; with_reducible apply hnx; clear hnx nx)
    | (clear hnx nx; clear hnx nx; with_reducible apply hnx; clear hnx nx))
  obtain ⟨NA, hNA⟩ : ∃ N, N = nm := ⟨_, rfl⟩
  subst hNA
  obtain ⟨NM, hNM⟩ : ∃ N, N = nm := ⟨_, rfl⟩
  subst hNM
  obtain ⟨NP, hNP⟩ : ∃ N, N = nm := ⟨_, rfl⟩
  subst hNP
  obtain ⟨NS, hNS⟩ : ∃ N, N = nm := ⟨_, rfl⟩
  subst hNS
  refine hfin _ _ (Fin_ret1 rfl (Sub_refl (by simp [names, hnm])) ?_); simp only [List.getD_cons_zero, List.getD_cons_succ, fr_getD_cons, fr_getD_nil, Nat.reduceEqDiff, Nat.reduceLT, ↓reduceIte]
  exact ⟨NA, NM, NP, NS, rfl, rfl⟩
set_option maxRecDepth 100000 in
set_option maxHeartbeats 8000000 in
theorem hpub_c (G : Globs) (hG : G 1 = .iptr (KS.map pw) 0) (seed : List UInt8) (n : Int) (hs : seed.length ≤ 4000) :
    PCalls Tryd.prog G 12 [pstr seed, pint .i64 n] [] (fun res H => res = .tuple [.agg ((pubF seed n).1.map pbyte), pint .i64 (pubF seed n).2] ∧ H = []) := by
  have c0 := valid_c G n
  have hfl := pubF_len seed n
  (refine PCalls_f Tryd.func12 rfl Tryd.ntmps12 Tryd.results12 (by simp) fun fin hfin => ?_; have hnm : True := trivial; simp (maxSteps := 2000000) (disch := omega) only [evb, evd, eve, constPV, seqK, blockK, scopeK, pbound, pelems, PV.mem?, PV.one, PV.cells, peqs, peq1, pkeys, List.set, Value.cells, ↓popG_eq, ↓pop.eq_1, ↓List.getElem?_map, ↓List.getElem?_cons_zero, ↓List.getElem?_cons_succ, Value.oneCell', Nat.reduceAdd, Nat.reduceMul, Nat.reduceSub, Nat.reduceLeDiff, Nat.reduceEqDiff, ↓reduceIte, ne_eq, reduceCtorEq, forall_const, exists_and_left, exists_eq_left', eq_self, Nat.reduceLT, Int.reduceLT, Int.reduceLE, Int.reduceToNat, Int.reduceAdd, Int.reduceSub, Int.reduceNeg, hnm, Tryd.tf0, Tryd.tf3, Tryd.tf4, Tryd.tf5, Tryd.tf9, Tryd.tf23, Tryd.tf29, Tryd.tf45, Tryd.call21, Tryd.call22])
  by_cases hf : seed.length = 32 ∧ 0 ≤ n ∧ n ≤ 6
  · have hp : pubF seed n = (nodeV seed n.toNat 0, 0) := by rw [pubF, if_pos hf]
    rw [hp] at hfl
    simp only [hp] at hfin
    rw [decide_eq_true hf.2] at c0
    obtain ⟨h, rfl⟩ : ∃ h : Nat, n = h := ⟨n.toNat, by omega⟩
    simp only [Int.toNat_natCast] at hfl hfin
    have hl := hf.1
    have hpw := pow_le64 h (by omega)
    have hca : callable Tryd.prog 44 = true := by kernel_rfl
    repeat' (first
    | (with_reducible apply W_seq_k; intro nx hnx)
    | (with_reducible first | apply W_block | apply W_scope)
    | (with_reducible refine W_prune 51 ?_; simp only [prb, Nat.reducePow, Nat.reduceDiv, Nat.reduceMod, Nat.reduceBEq]; with_reducible apply W_region_l)
    | ((first | (with_reducible apply WL_op; intro nx hnx) | with_reducible refine Ev_out ?_ | (with_reducible refine pfresh_k hnm fun nm hnm => ?_; (try simp only [fmb] at hnm)) | (with_reducible refine pborn_mu hnm fun nm hnm => ?_; (try simp only [fmb] at hnm))); try (simp (maxSteps := 2000000) (disch := omega) only [evb, evd, eve, constPV, seqK, blockK, scopeK, pbound, pelems, PV.mem?, PV.one, PV.cells, peqs, peq1, pkeys, List.set, Value.cells, ↓popG_eq, ↓pop.eq_1, ↓List.getElem?_map, ↓List.getElem?_cons_zero, ↓List.getElem?_cons_succ, Value.oneCell', Nat.reduceAdd, Nat.reduceMul, Nat.reduceSub, Nat.reduceLeDiff, Nat.reduceEqDiff, ↓reduceIte, ne_eq, reduceCtorEq, forall_const, exists_and_left, exists_eq_left', eq_self, Nat.reduceLT, Int.reduceLT, Int.reduceLE, Int.reduceToNat, Int.reduceAdd, Int.reduceSub, Int.reduceNeg, hnm, Tryd.tf0, Tryd.tf3, Tryd.tf4, Tryd.tf5, Tryd.tf9, Tryd.tf23, Tryd.tf29, Tryd.tf45, Tryd.call21, Tryd.call22, hl]); repeat (refine And.intro (by omega) ?_))
    | ((with_reducible first | apply WL_nil | apply W_label | apply W_skip | apply W_exit | apply W_ret); try simp only [seqK, blockK, scopeK, ↓reduceIte, Nat.reduceEqDiff])
    | (with_reducible apply pguard_intro <;> (intro hc; (try simp only [hcb, reduceCtorEq, forall_const, ne_eq] at hc); first | (exfalso; omega) | (exfalso; exact hc trivial) | refine Ev_in ?_))
    | (with_reducible apply W_cond_k; intro _ _ ea eb; (simp only [condK, cob, opnd, constPV, Nat.reduceEqDiff, Nat.reduceLT, ↓reduceIte, hcb, reduceCtorEq, forall_const, ne_eq]); subst ea eb; first | (refine ⟨fun hc => ?_, fun hc => ?_⟩ <;> first | (exfalso; omega) | (exfalso; exact hc trivial) | skip) | skip)
    | (with_reducible apply hnx; clear hnx nx)
    | (with_reducible refine And.intro (by omega) ?_)
    | (with_reducible refine And.intro ?_ ?_)
    | (with_reducible refine pcall_k (c0) ?_; rintro _ _ ⟨rfl, rfl⟩ -; refine Ev_in ?_)
    | (clear hnx nx; with_reducible apply hnx; clear hnx nx)
    | (clear hnx nx; clear hnx nx; with_reducible apply hnx; clear hnx nx))
    all_goals first
      | exact absurd trivial hc
      | exact rfl
      | (exfalso
         omega)
      | (intro hh
         exfalso
         simp at hh
         done)
      | skip
    obtain ⟨NT, hNT⟩ : ∃ N, N = nm := ⟨_, rfl⟩
    subst hNT
    refine pcall_k (nodes_c G seed) ?_
    rintro _ _ ⟨a, m, M, s, rfl, rfl⟩ hd
    have hd2 : (a = NT) = False ∧ (m = NT) = False ∧ (M = NT) = False ∧ (s = NT) = False := by
      have h1 : ∀ x ∈ [a, m, M, s], x ≠ NT := fun x hx e => hd x hx (by simp [names, e])
      exact ⟨eq_false (h1 a (by simp)), eq_false (h1 m (by simp)), eq_false (h1 M (by simp)), eq_false (h1 s (by simp))⟩
    have cn := node_at G hG seed hs a m M s h 0 [] (by omega) (by omega)
    have cn : PCalls Tryd.prog G 44 [pint .i64 h, .val (.int .i64 0), .ptr m 0, .ptr s 0, .ptr a 0] (HM a m M s seed []) (NRes a m M s seed h 0) := cn
    have hRf : ∀ res H, NRes a m M s seed h 0 res H → res = .agg ((nodeV seed h 0).map pbyte) ∧ ∃ T', H = HM a m M s seed T' := fun _ _ h => h
    generalize NRes a m M s seed h 0 = R at *
    generalize nodeV seed h 0 = v at *
    have ho := all_one_byte v
    have hl2 : (v.map pbyte).length = 16 := by rw [List.length_map, hfl]
    have tv : List.take 16 (v.map pbyte) = v.map pbyte := List.take_of_length_le (by omega)
    refine Ev_in ?_
    repeat' (first
    | (with_reducible apply W_seq_k; intro nx hnx)
    | (with_reducible first | apply W_block | apply W_scope)
    | (with_reducible refine W_prune 51 ?_; simp only [prb, Nat.reducePow, Nat.reduceDiv, Nat.reduceMod, Nat.reduceBEq]; with_reducible apply W_region_l)
    | ((first | (with_reducible apply WL_op; intro nx hnx) | with_reducible refine Ev_out ?_ | (with_reducible refine pfresh_k hnm fun nm hnm => ?_; (try simp only [fmb] at hnm)) | (with_reducible refine pborn_mu hnm fun nm hnm => ?_; (try simp only [fmb] at hnm))); try (simp (maxSteps := 2000000) (disch := omega) only [evb, evd, eve, constPV, seqK, blockK, scopeK, pbound, pelems, PV.mem?, PV.one, PV.cells, peqs, peq1, pkeys, List.set, Value.cells, ↓popG_eq, ↓pop.eq_1, ↓List.getElem?_map, ↓List.getElem?_cons_zero, ↓List.getElem?_cons_succ, Value.oneCell', Nat.reduceAdd, Nat.reduceMul, Nat.reduceSub, Nat.reduceLeDiff, Nat.reduceEqDiff, ↓reduceIte, ne_eq, reduceCtorEq, forall_const, exists_and_left, exists_eq_left', eq_self, Nat.reduceLT, Int.reduceLT, Int.reduceLE, Int.reduceToNat, Int.reduceAdd, Int.reduceSub, Int.reduceNeg, hnm, Tryd.tf0, Tryd.tf3, Tryd.tf4, Tryd.tf5, Tryd.tf9, Tryd.tf23, Tryd.tf29, Tryd.tf45, Tryd.call21, Tryd.call22, hca, hd2, ho, hl2, tv]); repeat (refine And.intro (by omega) ?_))
    | ((with_reducible first | apply WL_nil | apply W_label | apply W_skip | apply W_exit | apply W_ret); try simp only [seqK, blockK, scopeK, ↓reduceIte, Nat.reduceEqDiff])
    | (with_reducible apply pguard_intro <;> (intro hc; (try simp only [hcb, reduceCtorEq, forall_const, ne_eq] at hc); first | (exfalso; omega) | (exfalso; exact hc trivial) | refine Ev_in ?_))
    | (with_reducible apply W_cond_k; intro _ _ ea eb; (simp only [condK, cob, opnd, constPV, Nat.reduceEqDiff, Nat.reduceLT, ↓reduceIte, hcb, reduceCtorEq, forall_const, ne_eq]); subst ea eb; first | (refine ⟨fun hc => ?_, fun hc => ?_⟩ <;> first | (exfalso; omega) | (exfalso; exact hc trivial) | skip) | skip)
    | (with_reducible apply hnx; clear hnx nx)
    | (with_reducible refine And.intro (by omega) ?_)
    | (with_reducible refine And.intro ?_ ?_)
    | ((refine pcall_mid [] (HM a m M s seed []) [_] rfl cn ?_; intro r1 H1 hr1; obtain ⟨rfl, T1, rfl⟩ := hRf _ _ hr1; refine Ev_in ?_))
    | (clear hnx nx; with_reducible apply hnx; clear hnx nx)
    | (clear hnx nx; clear hnx nx; with_reducible apply hnx; clear hnx nx))
    all_goals first
      | exact absurd trivial hc
      | exact rfl
      | (exfalso
         omega)
      | (refine hfin _ _ ?_
         exact Fin_dig2 (n := NT) (by simp only [fr_getD_cons, Nat.reduceEqDiff, Nat.reduceLT, ↓reduceIte]) (by simp [look, hd2]) hfl (by simp only [fr_getD_cons, Nat.reduceEqDiff, Nat.reduceLT, ↓reduceIte]) ⟨rfl, rfl⟩)
  · have hp : pubF seed n = (List.replicate 16 0, 1) := by rw [pubF, if_neg hf]
    simp only [hp] at hfin
    by_cases hl : seed.length = 32
    · have hv : ¬ (0 ≤ n ∧ n ≤ 6) := fun h => hf ⟨hl, h⟩
      rw [decide_eq_false hv] at c0
      repeat' (first
    | (with_reducible apply W_seq_k; intro nx hnx)
    | (with_reducible first | apply W_block | apply W_scope)
    | (with_reducible refine W_prune 51 ?_; simp only [prb, Nat.reducePow, Nat.reduceDiv, Nat.reduceMod, Nat.reduceBEq]; with_reducible apply W_region_l)
    | ((first | (with_reducible apply WL_op; intro nx hnx) | with_reducible refine Ev_out ?_ | (with_reducible refine pfresh_k hnm fun nm hnm => ?_; (try simp only [fmb] at hnm)) | (with_reducible refine pborn_mu hnm fun nm hnm => ?_; (try simp only [fmb] at hnm))); try (simp (maxSteps := 2000000) (disch := omega) only [evb, evd, eve, constPV, seqK, blockK, scopeK, pbound, pelems, PV.mem?, PV.one, PV.cells, peqs, peq1, pkeys, List.set, Value.cells, ↓popG_eq, ↓pop.eq_1, ↓List.getElem?_map, ↓List.getElem?_cons_zero, ↓List.getElem?_cons_succ, Value.oneCell', Nat.reduceAdd, Nat.reduceMul, Nat.reduceSub, Nat.reduceLeDiff, Nat.reduceEqDiff, ↓reduceIte, ne_eq, reduceCtorEq, forall_const, exists_and_left, exists_eq_left', eq_self, Nat.reduceLT, Int.reduceLT, Int.reduceLE, Int.reduceToNat, Int.reduceAdd, Int.reduceSub, Int.reduceNeg, hnm, Tryd.tf0, Tryd.tf3, Tryd.tf4, Tryd.tf5, Tryd.tf9, Tryd.tf23, Tryd.tf29, Tryd.tf45, Tryd.call21, Tryd.call22, hl]); repeat (refine And.intro (by omega) ?_))
    | ((with_reducible first | apply WL_nil | apply W_label | apply W_skip | apply W_exit | apply W_ret); try simp only [seqK, blockK, scopeK, ↓reduceIte, Nat.reduceEqDiff])
    | (with_reducible apply pguard_intro <;> (intro hc; (try simp only [hcb, reduceCtorEq, forall_const, ne_eq] at hc); first | (exfalso; omega) | (exfalso; exact hc trivial) | refine Ev_in ?_))
    | (with_reducible apply W_cond_k; intro _ _ ea eb; (simp only [condK, cob, opnd, constPV, Nat.reduceEqDiff, Nat.reduceLT, ↓reduceIte, hcb, reduceCtorEq, forall_const, ne_eq]); subst ea eb; first | (refine ⟨fun hc => ?_, fun hc => ?_⟩ <;> first | (exfalso; omega) | (exfalso; exact hc trivial) | skip) | skip)
    | (with_reducible apply hnx; clear hnx nx)
    | (with_reducible refine And.intro (by omega) ?_)
    | (with_reducible refine And.intro ?_ ?_)
    | (with_reducible refine pcall_k (c0) ?_; rintro _ _ ⟨rfl, rfl⟩ -; refine Ev_in ?_)
    | (clear hnx nx; with_reducible apply hnx; clear hnx nx)
    | (clear hnx nx; clear hnx nx; with_reducible apply hnx; clear hnx nx))
      all_goals first
        | exact absurd trivial hc
        | exact rfl
        | (exfalso
           omega)
        | (intro hh
           exfalso
           simp at hh
           done)
        | (refine hfin _ _ ?_
           exact Fin_dig2 (n := nm) (f := List.replicate 16 0) (by simp only [fr_getD_cons, Nat.reduceEqDiff, Nat.reduceLT, ↓reduceIte]) (by simp only [look, ↓reduceIte]; rfl) (by simp) (by simp only [fr_getD_cons, Nat.reduceEqDiff, Nat.reduceLT, ↓reduceIte]) ⟨rfl, rfl⟩)
    · have hl' : ¬ (seed.length : Int) = 32 := by omega
      repeat' (first
    | (with_reducible apply W_seq_k; intro nx hnx)
    | (with_reducible first | apply W_block | apply W_scope)
    | (with_reducible refine W_prune 51 ?_; simp only [prb, Nat.reducePow, Nat.reduceDiv, Nat.reduceMod, Nat.reduceBEq]; with_reducible apply W_region_l)
    | ((first | (with_reducible apply WL_op; intro nx hnx) | with_reducible refine Ev_out ?_ | (with_reducible refine pfresh_k hnm fun nm hnm => ?_; (try simp only [fmb] at hnm)) | (with_reducible refine pborn_mu hnm fun nm hnm => ?_; (try simp only [fmb] at hnm))); try (simp (maxSteps := 2000000) (disch := omega) only [evb, evd, eve, constPV, seqK, blockK, scopeK, pbound, pelems, PV.mem?, PV.one, PV.cells, peqs, peq1, pkeys, List.set, Value.cells, ↓popG_eq, ↓pop.eq_1, ↓List.getElem?_map, ↓List.getElem?_cons_zero, ↓List.getElem?_cons_succ, Value.oneCell', Nat.reduceAdd, Nat.reduceMul, Nat.reduceSub, Nat.reduceLeDiff, Nat.reduceEqDiff, ↓reduceIte, ne_eq, reduceCtorEq, forall_const, exists_and_left, exists_eq_left', eq_self, Nat.reduceLT, Int.reduceLT, Int.reduceLE, Int.reduceToNat, Int.reduceAdd, Int.reduceSub, Int.reduceNeg, hnm, Tryd.tf0, Tryd.tf3, Tryd.tf4, Tryd.tf5, Tryd.tf9, Tryd.tf23, Tryd.tf29, Tryd.tf45, Tryd.call21, Tryd.call22, hl', hl]); repeat (refine And.intro (by omega) ?_))
    | ((with_reducible first | apply WL_nil | apply W_label | apply W_skip | apply W_exit | apply W_ret); try simp only [seqK, blockK, scopeK, ↓reduceIte, Nat.reduceEqDiff])
    | (with_reducible apply pguard_intro <;> (intro hc; (try simp only [hcb, reduceCtorEq, forall_const, ne_eq] at hc); first | (exfalso; omega) | (exfalso; exact hc trivial) | refine Ev_in ?_))
    | (with_reducible apply W_cond_k; intro _ _ ea eb; (simp only [condK, cob, opnd, constPV, Nat.reduceEqDiff, Nat.reduceLT, ↓reduceIte, hcb, reduceCtorEq, forall_const, ne_eq]); subst ea eb; first | (refine ⟨fun hc => ?_, fun hc => ?_⟩ <;> first | (exfalso; omega) | (exfalso; exact hc trivial) | skip) | skip)
    | (with_reducible apply hnx; clear hnx nx)
    | (with_reducible refine And.intro (by omega) ?_)
    | (with_reducible refine And.intro ?_ ?_)
    | (with_reducible refine pcall_k (c0) ?_; rintro _ _ ⟨rfl, rfl⟩ -; refine Ev_in ?_)
    | (clear hnx nx; with_reducible apply hnx; clear hnx nx)
    | (clear hnx nx; clear hnx nx; with_reducible apply hnx; clear hnx nx))
      all_goals first
        | exact absurd trivial hc
        | exact rfl
        | (exfalso
           omega)
        | (intro hh
           exfalso
           simp at hh
           done)
        | (refine hfin _ _ ?_
           exact Fin_dig2 (n := nm) (f := List.replicate 16 0) (by simp only [fr_getD_cons, Nat.reduceEqDiff, Nat.reduceLT, ↓reduceIte]) (by simp only [look, ↓reduceIte]; rfl) (by simp) (by simp only [fr_getD_cons, Nat.reduceEqDiff, Nat.reduceLT, ↓reduceIte]) ⟨rfl, rfl⟩)
end Go.PM

namespace Go.PM
open Go.Proofs
attribute [local irreducible] W PCalls pcall pcallI WL
theorem shr_op (k l : Nat) (hl : l ≤ 6) : Int.fdiv (k : Int) (2 ^ min l IntKind.i64.bits) = ((k / 2 ^ l : Nat) : Int) := by
  have h1 : min l IntKind.i64.bits = l := by simp only [IntKind.bits]; omega
  rw [h1, Int.fdiv_eq_ediv_of_nonneg _ (by exact_mod_cast Nat.zero_le _)]
  norm_cast
theorem xor_sib : ∀ j : _root_.Fin 128, bits .xor .i64 (j.val : Int) 1 = ((sib j.val : Nat) : Int) := by decide +kernel
set_option maxRecDepth 100000 in
set_option maxHeartbeats 8000000 in
theorem hsign_c (G : Globs) (hG : G 1 = .iptr (KS.map pw) 0) (seed : List UInt8) (n i : Int) (msg : List UInt8) (hs : seed.length ≤ 4000) (hi : inR i) (hm : msg.length ≤ 4000) :
    PCalls Tryd.prog G 14 [pstr seed, pint .i64 n, pint .i64 i, pstr msg] [] (fun res H => res = .tuple [pstr (signF seed n i msg).1, pint .i64 (signF seed n i msg).2] ∧ H = []) := by
  have c0 := valid_c G n
  (refine PCalls_f Tryd.func14 rfl Tryd.ntmps14 Tryd.results14 (by simp) fun fin hfin => ?_; have hnm : True := trivial; simp (maxSteps := 2000000) (disch := omega) only [evb, evd, eve, constPV, seqK, blockK, scopeK, pbound, pelems, PV.mem?, PV.one, PV.cells, peqs, peq1, pkeys, List.set, Value.cells, ↓popG_eq, ↓pop.eq_1, ↓List.getElem?_map, ↓List.getElem?_cons_zero, ↓List.getElem?_cons_succ, Value.oneCell', Nat.reduceAdd, Nat.reduceMul, Nat.reduceSub, Nat.reduceLeDiff, Nat.reduceEqDiff, ↓reduceIte, ne_eq, reduceCtorEq, forall_const, exists_and_left, exists_eq_left', eq_self, Nat.reduceLT, Int.reduceLT, Int.reduceLE, Int.reduceToNat, Int.reduceAdd, Int.reduceSub, Int.reduceNeg, hnm, Tryd.tf0, Tryd.tf3, Tryd.tf4, Tryd.tf5, Tryd.tf9, Tryd.tf23, Tryd.tf25, Tryd.tf29, Tryd.tf45, Tryd.tf52, Tryd.tf54, Tryd.tf57, Tryd.call10, Tryd.call16, Tryd.call21, Tryd.call22, Tryd.call25, Tryd.call26, Tryd.call27, Tryd.call28, Tryd.call29])
  by_cases hf : seed.length = 32 ∧ 0 ≤ n ∧ n ≤ 6
  · have hl := hf.1
    rw [decide_eq_true hf.2] at c0
    obtain ⟨h, rfl⟩ : ∃ h : Nat, n = h := ⟨n.toNat, by omega⟩
    have hh : h ≤ 6 := by omega
    have hsh := shl_op ⟨h, by omega⟩
    simp only at hsh
    obtain ⟨w, hw⟩ : ∃ w, w = 2 ^ h := ⟨_, rfl⟩
    have hw64 := pow_le64 h hh
    rw [← hw] at hsh hw64
    by_cases hb : i < 0 ∨ (w : Int) ≤ i
    · have hp : signF seed h i msg = ([], 23) := by
        rw [signF, if_neg (by simpa using hf), if_pos (by rw [Int.toNat_natCast]; rw [hw] at hb; exact_mod_cast hb)]
      simp only [hp] at hfin
      repeat' (first
    | (with_reducible apply W_seq_k; intro nx hnx)
    | (with_reducible first | apply W_block | apply W_scope)
    | (with_reducible refine W_prune 885451596837406506767 ?_; simp only [prb, Nat.reducePow, Nat.reduceDiv, Nat.reduceMod, Nat.reduceBEq]; with_reducible apply W_region_l)
    | ((first | (with_reducible apply WL_op; intro nx hnx) | with_reducible refine Ev_out ?_ | (with_reducible refine pfresh_k hnm fun nm hnm => ?_; (try simp only [fmb] at hnm)) | (with_reducible refine pborn_mu hnm fun nm hnm => ?_; (try simp only [fmb] at hnm))); try (simp (maxSteps := 2000000) (disch := omega) only [evb, evd, eve, constPV, seqK, blockK, scopeK, pbound, pelems, PV.mem?, PV.one, PV.cells, peqs, peq1, pkeys, List.set, Value.cells, ↓popG_eq, ↓pop.eq_1, ↓List.getElem?_map, ↓List.getElem?_cons_zero, ↓List.getElem?_cons_succ, Value.oneCell', Nat.reduceAdd, Nat.reduceMul, Nat.reduceSub, Nat.reduceLeDiff, Nat.reduceEqDiff, ↓reduceIte, ne_eq, reduceCtorEq, forall_const, exists_and_left, exists_eq_left', eq_self, Nat.reduceLT, Int.reduceLT, Int.reduceLE, Int.reduceToNat, Int.reduceAdd, Int.reduceSub, Int.reduceNeg, hnm, Tryd.tf0, Tryd.tf3, Tryd.tf4, Tryd.tf5, Tryd.tf9, Tryd.tf23, Tryd.tf25, Tryd.tf29, Tryd.tf45, Tryd.tf52, Tryd.tf54, Tryd.tf57, Tryd.call10, Tryd.call16, Tryd.call21, Tryd.call22, Tryd.call25, Tryd.call26, Tryd.call27, Tryd.call28, Tryd.call29, hl, hsh]); repeat (refine And.intro (by omega) ?_))
    | ((with_reducible first | apply WL_nil | apply W_label | apply W_skip | apply W_exit | apply W_ret); try simp only [seqK, blockK, scopeK, ↓reduceIte, Nat.reduceEqDiff])
    | (with_reducible apply pguard_intro <;> (intro hc; (try simp only [hcb, reduceCtorEq, forall_const, ne_eq] at hc); first | (exfalso; omega) | (exfalso; exact hc trivial) | refine Ev_in ?_))
    | (with_reducible apply W_cond_k; intro _ _ ea eb; (simp only [condK, cob, opnd, constPV, Nat.reduceEqDiff, Nat.reduceLT, ↓reduceIte, hcb, reduceCtorEq, forall_const, ne_eq]); subst ea eb; first | (refine ⟨fun hc => ?_, fun hc => ?_⟩ <;> first | (exfalso; omega) | (exfalso; exact hc trivial) | skip) | skip)
    | (with_reducible apply hnx; clear hnx nx)
    | (with_reducible refine And.intro (by omega) ?_)
    | (with_reducible refine And.intro ?_ ?_)
    | (with_reducible refine pcall_k (c0) ?_; rintro _ _ ⟨rfl, rfl⟩ -; refine Ev_in ?_)
    | (clear hnx nx; with_reducible apply hnx; clear hnx nx)
    | (clear hnx nx; clear hnx nx; with_reducible apply hnx; clear hnx nx))
      all_goals first
        | exact absurd trivial hc
        | exact rfl
        | (exfalso
           omega)
        | (intro hh
           exfalso
           simp at hh
           done)
        | (intro hh
           exfalso
           simp at hh
           omega)
        | (refine hfin _ _ (Fin_ret2 rfl rfl (Sub_nil _) ?_); simp only [List.getD_cons_zero, List.getD_cons_succ, fr_getD_cons, fr_getD_nil, Nat.reduceEqDiff, Nat.reduceLT, ↓reduceIte]; first | trivial | exact ⟨rfl, by trivial⟩ | (simp; done) | (simp; omega))
    · have hp : signF seed h i msg = (sigT seed h i.toNat msg, 0) := by
        rw [signF, if_neg (by simpa using hf), if_neg (by rw [Int.toNat_natCast]; rw [hw] at hb; exact_mod_cast hb), Int.toNat_natCast]
      simp only [hp] at hfin
      clear hp
      obtain ⟨k, rfl⟩ : ∃ k : Nat, i = k := ⟨i.toNat, by omega⟩
      have hkw : k < w := by omega
      simp only [Int.toNat_natCast] at hfin
      have hk0 : (k : Int) < (w : Int) := by omega
      have hk1 : ¬ (k : Int) < 0 := by omega
      have hk2 : ¬ (w : Int) ≤ (k : Int) := by omega
      have h9 := intB_len9 hi
      have hm2 : ¬ 1048576 < (msg.length : Int) := by omega
      have hca : callable Tryd.prog 44 = true := by kernel_rfl
      repeat' (first
    | (with_reducible apply W_seq_k; intro nx hnx)
    | (with_reducible first | apply W_block | apply W_scope)
    | (with_reducible refine W_prune 885451596837406506767 ?_; simp only [prb, Nat.reducePow, Nat.reduceDiv, Nat.reduceMod, Nat.reduceBEq]; with_reducible apply W_region_l)
    | ((first | (with_reducible apply WL_op; intro nx hnx) | with_reducible refine Ev_out ?_ | (with_reducible refine pfresh_k hnm fun nm hnm => ?_; (try simp only [fmb] at hnm)) | (with_reducible refine pborn_mu hnm fun nm hnm => ?_; (try simp only [fmb] at hnm))); try (simp (maxSteps := 2000000) (disch := omega) only [evb, evd, eve, constPV, seqK, blockK, scopeK, pbound, pelems, PV.mem?, PV.one, PV.cells, peqs, peq1, pkeys, List.set, Value.cells, ↓popG_eq, ↓pop.eq_1, ↓List.getElem?_map, ↓List.getElem?_cons_zero, ↓List.getElem?_cons_succ, Value.oneCell', Nat.reduceAdd, Nat.reduceMul, Nat.reduceSub, Nat.reduceLeDiff, Nat.reduceEqDiff, ↓reduceIte, ne_eq, reduceCtorEq, forall_const, exists_and_left, exists_eq_left', eq_self, Nat.reduceLT, Int.reduceLT, Int.reduceLE, Int.reduceToNat, Int.reduceAdd, Int.reduceSub, Int.reduceNeg, hnm, Tryd.tf0, Tryd.tf3, Tryd.tf4, Tryd.tf5, Tryd.tf9, Tryd.tf23, Tryd.tf25, Tryd.tf29, Tryd.tf45, Tryd.tf52, Tryd.tf54, Tryd.tf57, Tryd.call10, Tryd.call16, Tryd.call21, Tryd.call22, Tryd.call25, Tryd.call26, Tryd.call27, Tryd.call28, Tryd.call29, hl, hk0, hk1, hk2, hsh, hm2]); repeat (refine And.intro (by omega) ?_))
    | ((with_reducible first | apply WL_nil | apply W_label | apply W_skip | apply W_exit | apply W_ret); try simp only [seqK, blockK, scopeK, ↓reduceIte, Nat.reduceEqDiff])
    | (with_reducible apply pguard_intro <;> (intro hc; (try simp only [hcb, reduceCtorEq, forall_const, ne_eq] at hc); first | (exfalso; omega) | (exfalso; exact hc trivial) | refine Ev_in ?_))
    | (with_reducible apply W_cond_k; intro _ _ ea eb; (simp only [condK, cob, opnd, constPV, Nat.reduceEqDiff, Nat.reduceLT, ↓reduceIte, hcb, reduceCtorEq, forall_const, ne_eq]); subst ea eb; first | (refine ⟨fun hc => ?_, fun hc => ?_⟩ <;> first | (exfalso; omega) | (exfalso; exact hc trivial) | skip) | skip)
    | (with_reducible apply hnx; clear hnx nx)
    | (with_reducible refine And.intro (by omega) ?_)
    | (with_reducible refine And.intro ?_ ?_)
    | (with_reducible refine pcall_k (c0) ?_; rintro _ _ ⟨rfl, rfl⟩ -; refine Ev_in ?_)
    | (clear hnx nx; with_reducible apply hnx; clear hnx nx)
    | (clear hnx nx; clear hnx nx; with_reducible apply hnx; clear hnx nx))
      all_goals first
        | exact absurd trivial hc
        | exact rfl
        | (exfalso
           omega)
        | (intro hh
           exfalso
           simp at hh
           done)
        | (intro hh
           exfalso
           simp at hh
           omega)
        | skip
      refine pcall_k (nodes_c G seed) ?_
      rintro _ _ ⟨a, m, M, s, rfl, rfl⟩ hd
      have c4 := wint_c G k hi.1 hi.2
      have b1 := isByte_pb (intB k)
      have b2 := unb_pb (intB k)
      refine Ev_in ?_
      obtain ⟨e, he⟩ : ∃ e, e = intB (k : Int) := ⟨_, rfl⟩
      rw [← he] at c4 b1 b2 h9
      have hen : e ≠ [] := by
        rintro rfl
        simp at h9
      repeat' (first
    | (with_reducible apply W_seq_k; intro nx hnx)
    | (with_reducible first | apply W_block | apply W_scope)
    | (with_reducible refine W_prune 885451596837406506767 ?_; simp only [prb, Nat.reducePow, Nat.reduceDiv, Nat.reduceMod, Nat.reduceBEq]; with_reducible apply W_region_l)
    | ((first | (with_reducible apply WL_op; intro nx hnx) | with_reducible refine Ev_out ?_ | (with_reducible refine pfresh_k hnm fun nm hnm => ?_; (try simp only [fmb] at hnm)) | (with_reducible refine pborn_mu hnm fun nm hnm => ?_; (try simp only [fmb] at hnm))); try (simp (maxSteps := 2000000) (disch := omega) only [evb, evd, eve, constPV, seqK, blockK, scopeK, pbound, pelems, PV.mem?, PV.one, PV.cells, peqs, peq1, pkeys, List.set, Value.cells, ↓popG_eq, ↓pop.eq_1, ↓List.getElem?_map, ↓List.getElem?_cons_zero, ↓List.getElem?_cons_succ, Value.oneCell', Nat.reduceAdd, Nat.reduceMul, Nat.reduceSub, Nat.reduceLeDiff, Nat.reduceEqDiff, ↓reduceIte, ne_eq, reduceCtorEq, forall_const, exists_and_left, exists_eq_left', eq_self, Nat.reduceLT, Int.reduceLT, Int.reduceLE, Int.reduceToNat, Int.reduceAdd, Int.reduceSub, Int.reduceNeg, hnm, Tryd.tf0, Tryd.tf3, Tryd.tf4, Tryd.tf5, Tryd.tf9, Tryd.tf23, Tryd.tf25, Tryd.tf29, Tryd.tf45, Tryd.tf52, Tryd.tf54, Tryd.tf57, Tryd.call10, Tryd.call16, Tryd.call21, Tryd.call22, Tryd.call25, Tryd.call26, Tryd.call27, Tryd.call28, Tryd.call29, hca]); repeat (refine And.intro (by omega) ?_))
    | ((with_reducible first | apply WL_nil | apply W_label | apply W_skip | apply W_exit | apply W_ret); try simp only [seqK, blockK, scopeK, ↓reduceIte, Nat.reduceEqDiff])
    | (with_reducible apply pguard_intro <;> (intro hc; (try simp only [hcb, reduceCtorEq, forall_const, ne_eq] at hc); first | (exfalso; omega) | (exfalso; exact hc trivial) | refine Ev_in ?_))
    | (with_reducible apply W_cond_k; intro _ _ ea eb; (simp only [condK, cob, opnd, constPV, Nat.reduceEqDiff, Nat.reduceLT, ↓reduceIte, hcb, reduceCtorEq, forall_const, ne_eq]); subst ea eb; first | (refine ⟨fun hc => ?_, fun hc => ?_⟩ <;> first | (exfalso; omega) | (exfalso; exact hc trivial) | skip) | skip)
    | (with_reducible apply hnx; clear hnx nx)
    | (with_reducible refine And.intro (by omega) ?_)
    | (with_reducible refine And.intro ?_ ?_)
    | (with_reducible refine pcall_k (c4) ?_; rintro _ _ ⟨rfl, rfl⟩ -; refine Ev_in ?_)
    | (clear hnx nx; with_reducible apply hnx; clear hnx nx)
    | (clear hnx nx; clear hnx nx; with_reducible apply hnx; clear hnx nx))
      obtain ⟨NB, hNB⟩ : ∃ N, N = nm := ⟨_, rfl⟩
      subst hNB
      refine pcall_midn [] [(NB, ⟨54, false, 0, [.val (.pointer none), pnil]⟩)] (HM a m M s seed []) rfl (writeL_c G NB [] e hen (by omega) (by simp) _ (.inl ⟨rfl, rfl⟩)) ?_
      rintro _ HB ⟨rfl, hB⟩ nd
      rw [List.nil_append] at hB nd
      have cn := node_at G hG seed hs a m M s h 0 [] (by omega) (by rw [← hw]; omega)
      have cn : PCalls Tryd.prog G 44 [pint .i64 h, .val (.int .i64 0), .ptr m 0, .ptr s 0, .ptr a 0] (HM a m M s seed []) (NRes a m M s seed h 0) := cn
      have hRf : ∀ res H, NRes a m M s seed h 0 res H → res = .agg ((nodeV seed h 0).map pbyte) ∧ ∃ T', H = HM a m M s seed T' := fun _ _ h => h
      generalize NRes a m M s seed h 0 = R at *
      have hvl := nodeV_len seed h 0
      have c2 := hdig_c G hG (nodeV seed h 0) k msg hvl hi hm
      have hdl := digestF_len (nodeV seed h 0) k msg
      have c3 := dig_c G (digestF (nodeV seed h 0) k msg) hdl
      have hqg := digF_get (digestF (nodeV seed h 0) k msg)
      have hql := digF_lt (digestF (nodeV seed h 0) k msg)
      have hqn := digF_len (digestF (nodeV seed h 0) k msg)
      have hsig : sigT seed h k msg = intB k ++ catF (sigV seed k (digF (digestF (nodeV seed h 0) k msg))) 68 ++ catF (patV seed k) h := rfl
      rw [← he] at hsig
      generalize sigT seed h k msg = S at *
      generalize digF (digestF (nodeV seed h 0) k msg) = q at *
      generalize digestF (nodeV seed h 0) k msg = d at *
      generalize nodeV seed h 0 = v at *
      have ho := all_one_byte v
      have hl2 : (v.map pbyte).length = 16 := by rw [List.length_map, hvl]
      have tv : List.take 16 (v.map pbyte) = v.map pbyte := List.take_of_length_le (by omega)
      have hlenS := catF_len (sigV_len seed k q)
      have hq2 : (q.map pn').length = 68 := by rw [List.length_map, hqn]
      refine Ev_in ?_
      repeat' (first
    | (with_reducible apply W_seq_k; intro nx hnx)
    | (with_reducible first | apply W_block | apply W_scope)
    | (with_reducible refine W_prune 885451596837406506767 ?_; simp only [prb, Nat.reducePow, Nat.reduceDiv, Nat.reduceMod, Nat.reduceBEq]; with_reducible apply W_region_l)
    | ((first | (with_reducible apply WL_op; intro nx hnx) | with_reducible refine Ev_out ?_ | (with_reducible refine pfresh_k hnm fun nm hnm => ?_; (try simp only [fmb] at hnm)) | (with_reducible refine pborn_mu hnm fun nm hnm => ?_; (try simp only [fmb] at hnm))); try (simp (maxSteps := 2000000) (disch := omega) only [evb, evd, eve, constPV, seqK, blockK, scopeK, pbound, pelems, PV.mem?, PV.one, PV.cells, peqs, peq1, pkeys, List.set, Value.cells, ↓popG_eq, ↓pop.eq_1, ↓List.getElem?_map, ↓List.getElem?_cons_zero, ↓List.getElem?_cons_succ, Value.oneCell', Nat.reduceAdd, Nat.reduceMul, Nat.reduceSub, Nat.reduceLeDiff, Nat.reduceEqDiff, ↓reduceIte, ne_eq, reduceCtorEq, forall_const, exists_and_left, exists_eq_left', eq_self, Nat.reduceLT, Int.reduceLT, Int.reduceLE, Int.reduceToNat, Int.reduceAdd, Int.reduceSub, Int.reduceNeg, hnm, Tryd.tf0, Tryd.tf3, Tryd.tf4, Tryd.tf5, Tryd.tf9, Tryd.tf23, Tryd.tf25, Tryd.tf29, Tryd.tf45, Tryd.tf52, Tryd.tf54, Tryd.tf57, Tryd.call10, Tryd.call16, Tryd.call21, Tryd.call22, Tryd.call25, Tryd.call26, Tryd.call27, Tryd.call28, Tryd.call29, hca, hq2]); repeat (refine And.intro (by omega) ?_))
    | ((with_reducible first | apply WL_nil | apply W_label | apply W_skip | apply W_exit | apply W_ret); try simp only [seqK, blockK, scopeK, ↓reduceIte, Nat.reduceEqDiff])
    | (with_reducible apply pguard_intro <;> (intro hc; (try simp only [hcb, reduceCtorEq, forall_const, ne_eq] at hc); first | (exfalso; omega) | (exfalso; exact hc trivial) | refine Ev_in ?_))
    | (with_reducible apply W_cond_k; intro _ _ ea eb; (simp only [condK, cob, opnd, constPV, Nat.reduceEqDiff, Nat.reduceLT, ↓reduceIte, hcb, reduceCtorEq, forall_const, ne_eq]); subst ea eb; first | (refine ⟨fun hc => ?_, fun hc => ?_⟩ <;> first | (exfalso; omega) | (exfalso; exact hc trivial) | skip) | skip)
    | (with_reducible apply hnx; clear hnx nx)
    | (with_reducible refine And.intro (by omega) ?_)
    | (with_reducible refine And.intro ?_ ?_)
    | (with_reducible refine pcall_k (c2) ?_; rintro _ _ ⟨rfl, rfl⟩ -; refine Ev_in ?_)
    | (with_reducible refine pcall_k (c3) ?_; rintro _ _ ⟨rfl, rfl⟩ -; refine Ev_in ?_)
    | ((refine pcall_midn HB (HM a m M s seed []) [] (by simp) cn ?_; intro r1 H1 hr1 nd2; obtain ⟨rfl, T1, rfl⟩ := hRf _ _ hr1; refine Ev_in ?_))
    | (clear hnx nx; with_reducible apply hnx; clear hnx nx)
    | (clear hnx nx; clear hnx nx; with_reducible apply hnx; clear hnx nx))
      all_goals first
        | exact absurd trivial hc
        | exact rfl
        | (exfalso
           omega)
        | skip
      clear cn hRf hr1 hvl c2 c3 hdl ho hl2 tv c0 c4 hd
      refine W_loop_k (fun z τ => ∃ (c : Nat) (u : List UInt8) (HB : Heap), c ≤ 68 ∧ z = 68 - c ∧ u = e ++ catF (sigV seed k q) c ∧ BS NB u HB ∧ (names (HB ++ HM a m M s seed T1)).Nodup ∧
          τ = ⟨fr 83 [(52, pint .i64 c), (51, pint .i64 68), (50, .list 1 (q.map pn')), (11, .ptr NB 0), (10, .func 44 [.ptr m 0, .ptr s 0, .ptr a 0]), (0, pstr seed), (1, pint .i64 h), (2, pint .i64 k)], HB ++ HM a m M s seed T1⟩) 68
        ⟨fr 83 [(52, pint .i64 (0 : Nat)), (51, pint .i64 68), (50, .list 1 (q.map pn')), (11, .ptr NB 0), (10, .func 44 [.ptr m 0, .ptr s 0, .ptr a 0]), (0, pstr seed), (1, pint .i64 h), (2, pint .i64 k)], HB ++ HM a m M s seed T1⟩ (by
        refine Wk_fr (by simp only [wkb, Nat.reduceEqDiff, Nat.reduceLT, ↓reduceIte]) ?_
        exact Sub_refl (by simpa using nd2)) ⟨0, e, HB, by omega, by omega, by rw [catF_zero, List.append_nil], hB, by simpa using nd2, rfl⟩ ?_
      clear hB nd nd2
      rintro z τ ⟨c, u, HB, hc, rfl, hsc, hB, nd, rfl⟩ lp hlp
      have hsl : u.length ≤ 9 + 16 * c := by rw [hsc, List.length_append, hlenS]; omega
      by_cases hlt : c < 68
      · have hcR : inR (c : Int) := ⟨by omega, by omega⟩
        have hg := hqg c hlt
        have hgl := hql c
        have hg3 : (q.map pn').getD c PV.junk = pint .i64 (q.getD c 0 : Nat) := by rw [List.getD_eq_getElem?_getD, hg]; rfl
        have d1 := start_c G hG seed hs k c hi hcR
        have d2 := adv_c G hG k c 0 (q.getD c 0 : Nat) (startF seed k c) hi hcR (by omega) (by omega) (by omega) (by omega) (startF_len _ _ _)
        rw [show advF k c 0 (((q.getD c 0 : Nat) : Int) - 0).toNat (startF seed k c) = sigV seed k q c from rfl] at d2
        have hsu := catF_succ (sigV seed k q) c
        have htl := sigV_len seed k q c
        obtain ⟨y, hy⟩ : ∃ y, y = u ++ sigV seed k q c := ⟨_, rfl⟩
        have hyl : y = e ++ catF (sigV seed k q) (c + 1) := by rw [hy, hsc, hsu, List.append_assoc]
        generalize sigV seed k q c = x at *
        generalize startF seed k c = v1 at *
        generalize q.getD c 0 = x0 at *
        have cw := fun v => writeA_c G NB v u x htl (by omega) HB hB
        rw [← hy] at cw
        have hxl : (x.map pbyte).length = 16 := by rw [List.length_map, htl]
        have tx : List.take 16 (x.map pbyte) = x.map pbyte := List.take_of_length_le (by omega)
        have hxo := all_one_byte x
        repeat' (first
    | (with_reducible apply W_seq_k; intro nx hnx)
    | (with_reducible first | apply W_block | apply W_scope)
    | (with_reducible refine W_prune 885451596837406506767 ?_; simp only [prb, Nat.reducePow, Nat.reduceDiv, Nat.reduceMod, Nat.reduceBEq]; with_reducible apply W_region_l)
    | ((first | (with_reducible apply WL_op; intro nx hnx) | with_reducible refine Ev_out ?_ | (with_reducible refine pfresh_k hnm fun nm hnm => ?_; (try simp only [fmb] at hnm)) | (with_reducible refine pborn_mu hnm fun nm hnm => ?_; (try simp only [fmb] at hnm))); try (simp (maxSteps := 2000000) (disch := omega) only [evb, evd, eve, constPV, seqK, blockK, scopeK, pbound, pelems, PV.mem?, PV.one, PV.cells, peqs, peq1, pkeys, List.set, Value.cells, ↓popG_eq, ↓pop.eq_1, ↓List.getElem?_map, ↓List.getElem?_cons_zero, ↓List.getElem?_cons_succ, Value.oneCell', Nat.reduceAdd, Nat.reduceMul, Nat.reduceSub, Nat.reduceLeDiff, Nat.reduceEqDiff, ↓reduceIte, ne_eq, reduceCtorEq, forall_const, exists_and_left, exists_eq_left', eq_self, Nat.reduceLT, Int.reduceLT, Int.reduceLE, Int.reduceToNat, Int.reduceAdd, Int.reduceSub, Int.reduceNeg, hnm, Tryd.tf0, Tryd.tf3, Tryd.tf4, Tryd.tf5, Tryd.tf9, Tryd.tf23, Tryd.tf25, Tryd.tf29, Tryd.tf45, Tryd.tf52, Tryd.tf54, Tryd.tf57, Tryd.call10, Tryd.call16, Tryd.call21, Tryd.call22, Tryd.call25, Tryd.call26, Tryd.call27, Tryd.call28, Tryd.call29, htl, hg, hg3, hq2, hxl, tx, hxo]); repeat (refine And.intro (by omega) ?_))
    | ((with_reducible first | apply WL_nil | apply W_label | apply W_skip | apply W_exit | apply W_ret); try simp only [seqK, blockK, scopeK, ↓reduceIte, Nat.reduceEqDiff])
    | (with_reducible apply pguard_intro <;> (intro hc; (try simp only [hcb, reduceCtorEq, forall_const, ne_eq] at hc); first | (exfalso; omega) | (exfalso; exact hc trivial) | refine Ev_in ?_))
    | (with_reducible apply W_cond_k; intro _ _ ea eb; (simp only [condK, cob, opnd, constPV, Nat.reduceEqDiff, Nat.reduceLT, ↓reduceIte, hcb, reduceCtorEq, forall_const, ne_eq]); subst ea eb; first | (refine ⟨fun hc => ?_, fun hc => ?_⟩ <;> first | (exfalso; omega) | (exfalso; exact hc trivial) | skip) | skip)
    | (with_reducible apply hnx; clear hnx nx)
    | (with_reducible refine And.intro (by omega) ?_)
    | (with_reducible refine And.intro ?_ ?_)
    | (with_reducible refine pcall_k (d1) ?_; rintro _ _ ⟨rfl, rfl⟩ -; refine Ev_in ?_)
    | (with_reducible refine pcall_k (d2) ?_; rintro _ _ ⟨rfl, rfl⟩ -; refine Ev_in ?_)
    | ((refine pcall_midn [] (_ :: HB) (HM a m M s seed T1) rfl (cw _) ?_; rintro _ H2 ⟨rfl, hB2⟩ nd2; refine Ev_in ?_))
    | (clear hnx nx; with_reducible apply hnx; clear hnx nx)
    | (clear hnx nx; clear hnx nx; with_reducible apply hnx; clear hnx nx))
        all_goals first
          | exact rfl
          | (exfalso
             omega)
          | (refine hlp _ (68 - (c + 1)) _ (by omega) ?_ ⟨c + 1, y, H2, by omega, rfl, hyl, hB2, nd2, rfl⟩
             refine Wk_fr (by simp only [wkb, Nat.reduceEqDiff, Nat.reduceLT, ↓reduceIte]) ?_
             exact Sub_refl nd2)
      · obtain rfl : c = 68 := by omega
        have hlenP := catF_len (patV_len seed k)
        clear hqg hql
        repeat' (first
    | (with_reducible apply W_seq_k; intro nx hnx)
    | (with_reducible first | apply W_block | apply W_scope)
    | (with_reducible refine W_prune 885451596837406506767 ?_; simp only [prb, Nat.reducePow, Nat.reduceDiv, Nat.reduceMod, Nat.reduceBEq]; with_reducible apply W_region_l)
    | ((first | (with_reducible apply WL_op; intro nx hnx) | with_reducible refine Ev_out ?_ | (with_reducible refine pfresh_k hnm fun nm hnm => ?_; (try simp only [fmb] at hnm)) | (with_reducible refine pborn_mu hnm fun nm hnm => ?_; (try simp only [fmb] at hnm))); try (simp (maxSteps := 2000000) (disch := omega) only [evb, evd, eve, constPV, seqK, blockK, scopeK, pbound, pelems, PV.mem?, PV.one, PV.cells, peqs, peq1, pkeys, List.set, Value.cells, ↓popG_eq, ↓pop.eq_1, ↓List.getElem?_map, ↓List.getElem?_cons_zero, ↓List.getElem?_cons_succ, Value.oneCell', Nat.reduceAdd, Nat.reduceMul, Nat.reduceSub, Nat.reduceLeDiff, Nat.reduceEqDiff, ↓reduceIte, ne_eq, reduceCtorEq, forall_const, exists_and_left, exists_eq_left', eq_self, Nat.reduceLT, Int.reduceLT, Int.reduceLE, Int.reduceToNat, Int.reduceAdd, Int.reduceSub, Int.reduceNeg, hnm, Tryd.tf0, Tryd.tf3, Tryd.tf4, Tryd.tf5, Tryd.tf9, Tryd.tf23, Tryd.tf25, Tryd.tf29, Tryd.tf45, Tryd.tf52, Tryd.tf54, Tryd.tf57, Tryd.call10, Tryd.call16, Tryd.call21, Tryd.call22, Tryd.call25, Tryd.call26, Tryd.call27, Tryd.call28, Tryd.call29]); repeat (refine And.intro (by omega) ?_))
    | ((with_reducible first | apply WL_nil | apply W_label | apply W_skip | apply W_exit | apply W_ret); try simp only [seqK, blockK, scopeK, ↓reduceIte, Nat.reduceEqDiff])
    | (with_reducible apply pguard_intro <;> (intro hc; (try simp only [hcb, reduceCtorEq, forall_const, ne_eq] at hc); first | (exfalso; omega) | (exfalso; exact hc trivial) | refine Ev_in ?_))
    | (with_reducible apply W_cond_k; intro _ _ ea eb; (simp only [condK, cob, opnd, constPV, Nat.reduceEqDiff, Nat.reduceLT, ↓reduceIte, hcb, reduceCtorEq, forall_const, ne_eq]); subst ea eb; first | (refine ⟨fun hc => ?_, fun hc => ?_⟩ <;> first | (exfalso; omega) | (exfalso; exact hc trivial) | skip) | skip)
    | (with_reducible apply hnx; clear hnx nx)
    | (with_reducible refine And.intro (by omega) ?_)
    | (with_reducible refine And.intro ?_ ?_)
    | (clear hnx nx; with_reducible apply hnx; clear hnx nx)
    | (clear hnx nx; clear hnx nx; with_reducible apply hnx; clear hnx nx))
        refine W_loop_k (fun z τ => ∃ (l : Nat) (y : List UInt8) (HB : Heap) (T : List (Nat × Nat)), l ≤ h ∧ z = h - l ∧ y = u ++ catF (patV seed k) l ∧ BS NB y HB ∧ (names (HB ++ HM a m M s seed T)).Nodup ∧
            τ = ⟨fr 83 [(69, pint .i64 l), (68, pint .i64 h), (11, .ptr NB 0), (10, .func 44 [.ptr m 0, .ptr s 0, .ptr a 0]), (2, pint .i64 k)], HB ++ HM a m M s seed T⟩) h
          ⟨fr 83 [(69, pint .i64 (0 : Nat)), (68, pint .i64 h), (11, .ptr NB 0), (10, .func 44 [.ptr m 0, .ptr s 0, .ptr a 0]), (2, pint .i64 k)], HB ++ HM a m M s seed T1⟩ (by
          refine Wk_fr (by simp only [wkb, Nat.reduceEqDiff, Nat.reduceLT, ↓reduceIte]) ?_
          exact Sub_refl nd) ⟨0, u, HB, T1, by omega, by omega, by rw [catF_zero, List.append_nil], hB, nd, rfl⟩ ?_
        clear hB nd
        rintro z τ ⟨l, y, HB, T, hl6, rfl, hy, hB, nd, rfl⟩ lp2 hlp2
        have hyl : y.length ≤ 9 + 16 * 68 + 16 * l := by rw [hy, List.length_append, hlenP]; omega
        by_cases hlh : l < h
        · have g1 := shr_op k l (by omega)
          have hj64 : k / 2 ^ l ≤ 64 := Nat.le_trans (Nat.div_le_self _ _) (by omega)
          have g2 := xor_sib ⟨k / 2 ^ l, by omega⟩
          simp only at g2
          have hpv : patV seed k l = nodeV seed l (sib (k / 2 ^ l)) := rfl
          have hsu := catF_succ (patV seed k) l
          rw [hpv] at hsu
          generalize k / 2 ^ l = j at *
          have hsb : sib j ≤ 65 := by unfold sib; split <;> omega
          have hp6 : 2 ^ l ≤ 64 := pow_le64 l (by omega)
          have cn := node_at G hG seed hs a m M s l (sib j) T (by omega) (Nat.le_trans (Nat.mul_le_mul (show sib j + 1 ≤ 66 by omega) hp6) (by omega))
          have hRf : ∀ res H, NRes a m M s seed l (sib j) res H → res = .agg ((nodeV seed l (sib j)).map pbyte) ∧ ∃ T', H = HM a m M s seed T' := fun _ _ h => h
          generalize NRes a m M s seed l (sib j) = R at *
          have htl := nodeV_len seed l (sib j)
          obtain ⟨y2, hy2⟩ : ∃ y2, y2 = y ++ nodeV seed l (sib j) := ⟨_, rfl⟩
          have hyu : y2 = u ++ catF (patV seed k) (l + 1) := by rw [hy2, hy, hsu, List.append_assoc]
          generalize nodeV seed l (sib j) = x at *
          generalize sib j = j2 at *
          have cw := fun v => writeA_c G NB v y x htl (by omega) HB hB
          rw [← hy2] at cw
          have hxl : (x.map pbyte).length = 16 := by rw [List.length_map, htl]
          have tx : List.take 16 (x.map pbyte) = x.map pbyte := List.take_of_length_le (by omega)
          have hxo := all_one_byte x
          repeat' (first
    | (with_reducible apply W_seq_k; intro nx hnx)
    | (with_reducible first | apply W_block | apply W_scope)
    | (with_reducible refine W_prune 885451596837406506767 ?_; simp only [prb, Nat.reducePow, Nat.reduceDiv, Nat.reduceMod, Nat.reduceBEq]; with_reducible apply W_region_l)
    | ((first | (with_reducible apply WL_op; intro nx hnx) | with_reducible refine Ev_out ?_ | (with_reducible refine pfresh_k hnm fun nm hnm => ?_; (try simp only [fmb] at hnm)) | (with_reducible refine pborn_mu hnm fun nm hnm => ?_; (try simp only [fmb] at hnm))); try (simp (maxSteps := 2000000) (disch := omega) only [evb, evd, eve, constPV, seqK, blockK, scopeK, pbound, pelems, PV.mem?, PV.one, PV.cells, peqs, peq1, pkeys, List.set, Value.cells, ↓popG_eq, ↓pop.eq_1, ↓List.getElem?_map, ↓List.getElem?_cons_zero, ↓List.getElem?_cons_succ, Value.oneCell', Nat.reduceAdd, Nat.reduceMul, Nat.reduceSub, Nat.reduceLeDiff, Nat.reduceEqDiff, ↓reduceIte, ne_eq, reduceCtorEq, forall_const, exists_and_left, exists_eq_left', eq_self, Nat.reduceLT, Int.reduceLT, Int.reduceLE, Int.reduceToNat, Int.reduceAdd, Int.reduceSub, Int.reduceNeg, hnm, Tryd.tf0, Tryd.tf3, Tryd.tf4, Tryd.tf5, Tryd.tf9, Tryd.tf23, Tryd.tf25, Tryd.tf29, Tryd.tf45, Tryd.tf52, Tryd.tf54, Tryd.tf57, Tryd.call10, Tryd.call16, Tryd.call21, Tryd.call22, Tryd.call25, Tryd.call26, Tryd.call27, Tryd.call28, Tryd.call29, hca, g1, g2, htl, hxl, tx, hxo]); repeat (refine And.intro (by omega) ?_))
    | ((with_reducible first | apply WL_nil | apply W_label | apply W_skip | apply W_exit | apply W_ret); try simp only [seqK, blockK, scopeK, ↓reduceIte, Nat.reduceEqDiff])
    | (with_reducible apply pguard_intro <;> (intro hc; (try simp only [hcb, reduceCtorEq, forall_const, ne_eq] at hc); first | (exfalso; omega) | (exfalso; exact hc trivial) | refine Ev_in ?_))
    | (with_reducible apply W_cond_k; intro _ _ ea eb; (simp only [condK, cob, opnd, constPV, Nat.reduceEqDiff, Nat.reduceLT, ↓reduceIte, hcb, reduceCtorEq, forall_const, ne_eq]); subst ea eb; first | (refine ⟨fun hc => ?_, fun hc => ?_⟩ <;> first | (exfalso; omega) | (exfalso; exact hc trivial) | skip) | skip)
    | (with_reducible apply hnx; clear hnx nx)
    | (with_reducible refine And.intro (by omega) ?_)
    | (with_reducible refine And.intro ?_ ?_)
    | ((refine pcall_midn HB (HM a m M s seed T) [] (by simp) cn ?_; intro r1 H1 hr1 nd2; obtain ⟨rfl, T2, rfl⟩ := hRf _ _ hr1; refine Ev_in ?_))
    | ((refine pcall_midn [] (_ :: HB) (HM a m M s seed _) rfl (cw _) ?_; rintro _ H2 ⟨rfl, hB2⟩ nd3; refine Ev_in ?_))
    | (clear hnx nx; with_reducible apply hnx; clear hnx nx)
    | (clear hnx nx; clear hnx nx; with_reducible apply hnx; clear hnx nx))
          all_goals first
            | exact rfl
            | (exfalso
               omega)
            | (refine hlp2 _ (h - (l + 1)) _ (by omega) ?_ ⟨l + 1, y2, H2, T2, by omega, rfl, hyu, hB2, nd3, rfl⟩
               refine Wk_fr (by simp only [wkb, Nat.reduceEqDiff, Nat.reduceLT, ↓reduceIte]) ?_
               exact Sub_refl nd3)
        · obtain rfl : l = h := by omega
          have hS : y = S := by rw [hy, hsc, hsig]
          have k0 := string_c G NB y (by omega) HB hB
          rw [hS] at k0
          repeat' (first
    | (with_reducible apply W_seq_k; intro nx hnx)
    | (with_reducible first | apply W_block | apply W_scope)
    | (with_reducible refine W_prune 885451596837406506767 ?_; simp only [prb, Nat.reducePow, Nat.reduceDiv, Nat.reduceMod, Nat.reduceBEq]; with_reducible apply W_region_l)
    | ((first | (with_reducible apply WL_op; intro nx hnx) | with_reducible refine Ev_out ?_ | (with_reducible refine pfresh_k hnm fun nm hnm => ?_; (try simp only [fmb] at hnm)) | (with_reducible refine pborn_mu hnm fun nm hnm => ?_; (try simp only [fmb] at hnm))); try (simp (maxSteps := 2000000) (disch := omega) only [evb, evd, eve, constPV, seqK, blockK, scopeK, pbound, pelems, PV.mem?, PV.one, PV.cells, peqs, peq1, pkeys, List.set, Value.cells, ↓popG_eq, ↓pop.eq_1, ↓List.getElem?_map, ↓List.getElem?_cons_zero, ↓List.getElem?_cons_succ, Value.oneCell', Nat.reduceAdd, Nat.reduceMul, Nat.reduceSub, Nat.reduceLeDiff, Nat.reduceEqDiff, ↓reduceIte, ne_eq, reduceCtorEq, forall_const, exists_and_left, exists_eq_left', eq_self, Nat.reduceLT, Int.reduceLT, Int.reduceLE, Int.reduceToNat, Int.reduceAdd, Int.reduceSub, Int.reduceNeg, hnm, Tryd.tf0, Tryd.tf3, Tryd.tf4, Tryd.tf5, Tryd.tf9, Tryd.tf23, Tryd.tf25, Tryd.tf29, Tryd.tf45, Tryd.tf52, Tryd.tf54, Tryd.tf57, Tryd.call10, Tryd.call16, Tryd.call21, Tryd.call22, Tryd.call25, Tryd.call26, Tryd.call27, Tryd.call28, Tryd.call29]); repeat (refine And.intro (by omega) ?_))
    | ((with_reducible first | apply WL_nil | apply W_label | apply W_skip | apply W_exit | apply W_ret); try simp only [seqK, blockK, scopeK, ↓reduceIte, Nat.reduceEqDiff])
    | (with_reducible apply pguard_intro <;> (intro hc; (try simp only [hcb, reduceCtorEq, forall_const, ne_eq] at hc); first | (exfalso; omega) | (exfalso; exact hc trivial) | refine Ev_in ?_))
    | (with_reducible apply W_cond_k; intro _ _ ea eb; (simp only [condK, cob, opnd, constPV, Nat.reduceEqDiff, Nat.reduceLT, ↓reduceIte, hcb, reduceCtorEq, forall_const, ne_eq]); subst ea eb; first | (refine ⟨fun hc => ?_, fun hc => ?_⟩ <;> first | (exfalso; omega) | (exfalso; exact hc trivial) | skip) | skip)
    | (with_reducible apply hnx; clear hnx nx)
    | (with_reducible refine And.intro (by omega) ?_)
    | (with_reducible refine And.intro ?_ ?_)
    | ((refine pcall_midn [] HB (HM a m M s seed T) rfl k0 ?_; rintro _ _ ⟨rfl, rfl⟩ nd2; refine Ev_in ?_))
    | (clear hnx nx; with_reducible apply hnx; clear hnx nx)
    | (clear hnx nx; clear hnx nx; with_reducible apply hnx; clear hnx nx))
          all_goals first
            | exact rfl
            | (exfalso
               omega)
            | (refine hfin _ _ (Fin_ret2 rfl rfl (Sub_nil _) ?_); simp only [List.getD_cons_zero, List.getD_cons_succ, fr_getD_cons, fr_getD_nil, Nat.reduceEqDiff, Nat.reduceLT, ↓reduceIte]; first | trivial | exact ⟨rfl, by trivial⟩ | (simp; done) | (simp; omega))
  · have hp : signF seed n i msg = ([], 1) := by rw [signF, if_pos hf]
    simp only [hp] at hfin
    by_cases hl : seed.length = 32
    · have hv : ¬ (0 ≤ n ∧ n ≤ 6) := fun h => hf ⟨hl, h⟩
      rw [decide_eq_false hv] at c0
      repeat' (first
    | (with_reducible apply W_seq_k; intro nx hnx)
    | (with_reducible first | apply W_block | apply W_scope)
    | (with_reducible refine W_prune 885451596837406506767 ?_; simp only [prb, Nat.reducePow, Nat.reduceDiv, Nat.reduceMod, Nat.reduceBEq]; with_reducible apply W_region_l)
    | ((first | (with_reducible apply WL_op; intro nx hnx) | with_reducible refine Ev_out ?_ | (with_reducible refine pfresh_k hnm fun nm hnm => ?_; (try simp only [fmb] at hnm)) | (with_reducible refine pborn_mu hnm fun nm hnm => ?_; (try simp only [fmb] at hnm))); try (simp (maxSteps := 2000000) (disch := omega) only [evb, evd, eve, constPV, seqK, blockK, scopeK, pbound, pelems, PV.mem?, PV.one, PV.cells, peqs, peq1, pkeys, List.set, Value.cells, ↓popG_eq, ↓pop.eq_1, ↓List.getElem?_map, ↓List.getElem?_cons_zero, ↓List.getElem?_cons_succ, Value.oneCell', Nat.reduceAdd, Nat.reduceMul, Nat.reduceSub, Nat.reduceLeDiff, Nat.reduceEqDiff, ↓reduceIte, ne_eq, reduceCtorEq, forall_const, exists_and_left, exists_eq_left', eq_self, Nat.reduceLT, Int.reduceLT, Int.reduceLE, Int.reduceToNat, Int.reduceAdd, Int.reduceSub, Int.reduceNeg, hnm, Tryd.tf0, Tryd.tf3, Tryd.tf4, Tryd.tf5, Tryd.tf9, Tryd.tf23, Tryd.tf25, Tryd.tf29, Tryd.tf45, Tryd.tf52, Tryd.tf54, Tryd.tf57, Tryd.call10, Tryd.call16, Tryd.call21, Tryd.call22, Tryd.call25, Tryd.call26, Tryd.call27, Tryd.call28, Tryd.call29, hl]); repeat (refine And.intro (by omega) ?_))
    | ((with_reducible first | apply WL_nil | apply W_label | apply W_skip | apply W_exit | apply W_ret); try simp only [seqK, blockK, scopeK, ↓reduceIte, Nat.reduceEqDiff])
    | (with_reducible apply pguard_intro <;> (intro hc; (try simp only [hcb, reduceCtorEq, forall_const, ne_eq] at hc); first | (exfalso; omega) | (exfalso; exact hc trivial) | refine Ev_in ?_))
    | (with_reducible apply W_cond_k; intro _ _ ea eb; (simp only [condK, cob, opnd, constPV, Nat.reduceEqDiff, Nat.reduceLT, ↓reduceIte, hcb, reduceCtorEq, forall_const, ne_eq]); subst ea eb; first | (refine ⟨fun hc => ?_, fun hc => ?_⟩ <;> first | (exfalso; omega) | (exfalso; exact hc trivial) | skip) | skip)
    | (with_reducible apply hnx; clear hnx nx)
    | (with_reducible refine And.intro (by omega) ?_)
    | (with_reducible refine And.intro ?_ ?_)
    | (with_reducible refine pcall_k (c0) ?_; rintro _ _ ⟨rfl, rfl⟩ -; refine Ev_in ?_)
    | (clear hnx nx; with_reducible apply hnx; clear hnx nx)
    | (clear hnx nx; clear hnx nx; with_reducible apply hnx; clear hnx nx))
      all_goals first
        | exact absurd trivial hc
        | exact rfl
        | (exfalso
           omega)
        | (intro hh
           exfalso
           simp at hh
           done)
        | (refine hfin _ _ (Fin_ret2 rfl rfl (Sub_nil _) ?_); simp only [List.getD_cons_zero, List.getD_cons_succ, fr_getD_cons, fr_getD_nil, Nat.reduceEqDiff, Nat.reduceLT, ↓reduceIte]; first | trivial | exact ⟨rfl, by trivial⟩ | (simp; done) | (simp; omega))
    · have hl' : ¬ (seed.length : Int) = 32 := by omega
      repeat' (first
    | (with_reducible apply W_seq_k; intro nx hnx)
    | (with_reducible first | apply W_block | apply W_scope)
    | (with_reducible refine W_prune 885451596837406506767 ?_; simp only [prb, Nat.reducePow, Nat.reduceDiv, Nat.reduceMod, Nat.reduceBEq]; with_reducible apply W_region_l)
    | ((first | (with_reducible apply WL_op; intro nx hnx) | with_reducible refine Ev_out ?_ | (with_reducible refine pfresh_k hnm fun nm hnm => ?_; (try simp only [fmb] at hnm)) | (with_reducible refine pborn_mu hnm fun nm hnm => ?_; (try simp only [fmb] at hnm))); try (simp (maxSteps := 2000000) (disch := omega) only [evb, evd, eve, constPV, seqK, blockK, scopeK, pbound, pelems, PV.mem?, PV.one, PV.cells, peqs, peq1, pkeys, List.set, Value.cells, ↓popG_eq, ↓pop.eq_1, ↓List.getElem?_map, ↓List.getElem?_cons_zero, ↓List.getElem?_cons_succ, Value.oneCell', Nat.reduceAdd, Nat.reduceMul, Nat.reduceSub, Nat.reduceLeDiff, Nat.reduceEqDiff, ↓reduceIte, ne_eq, reduceCtorEq, forall_const, exists_and_left, exists_eq_left', eq_self, Nat.reduceLT, Int.reduceLT, Int.reduceLE, Int.reduceToNat, Int.reduceAdd, Int.reduceSub, Int.reduceNeg, hnm, Tryd.tf0, Tryd.tf3, Tryd.tf4, Tryd.tf5, Tryd.tf9, Tryd.tf23, Tryd.tf25, Tryd.tf29, Tryd.tf45, Tryd.tf52, Tryd.tf54, Tryd.tf57, Tryd.call10, Tryd.call16, Tryd.call21, Tryd.call22, Tryd.call25, Tryd.call26, Tryd.call27, Tryd.call28, Tryd.call29, hl', hl]); repeat (refine And.intro (by omega) ?_))
    | ((with_reducible first | apply WL_nil | apply W_label | apply W_skip | apply W_exit | apply W_ret); try simp only [seqK, blockK, scopeK, ↓reduceIte, Nat.reduceEqDiff])
    | (with_reducible apply pguard_intro <;> (intro hc; (try simp only [hcb, reduceCtorEq, forall_const, ne_eq] at hc); first | (exfalso; omega) | (exfalso; exact hc trivial) | refine Ev_in ?_))
    | (with_reducible apply W_cond_k; intro _ _ ea eb; (simp only [condK, cob, opnd, constPV, Nat.reduceEqDiff, Nat.reduceLT, ↓reduceIte, hcb, reduceCtorEq, forall_const, ne_eq]); subst ea eb; first | (refine ⟨fun hc => ?_, fun hc => ?_⟩ <;> first | (exfalso; omega) | (exfalso; exact hc trivial) | skip) | skip)
    | (with_reducible apply hnx; clear hnx nx)
    | (with_reducible refine And.intro (by omega) ?_)
    | (with_reducible refine And.intro ?_ ?_)
    | (with_reducible refine pcall_k (c0) ?_; rintro _ _ ⟨rfl, rfl⟩ -; refine Ev_in ?_)
    | (clear hnx nx; with_reducible apply hnx; clear hnx nx)
    | (clear hnx nx; clear hnx nx; with_reducible apply hnx; clear hnx nx))
      all_goals first
        | exact absurd trivial hc
        | exact rfl
        | (exfalso
           omega)
        | (intro hh
           exfalso
           simp at hh
           done)
        | (refine hfin _ _ (Fin_ret2 rfl rfl (Sub_nil _) ?_); simp only [List.getD_cons_zero, List.getD_cons_succ, fr_getD_cons, fr_getD_nil, Nat.reduceEqDiff, Nat.reduceLT, ↓reduceIte]; first | trivial | exact ⟨rfl, by trivial⟩ | (simp; done) | (simp; omega))
end Go.PM

namespace Go.PM
open Go.Proofs
attribute [local irreducible] W PCalls pcall pcallI WL
theorem and_one : ∀ j : _root_.Fin 128, bits .and .i64 (j.val : Int) 1 = ((j.val % 2 : Nat) : Int) := by decide +kernel
theorem value_lend {G : Globs} {σ : PState} {q : Bool} {d : Option Tmp} {K : PState → Prop} (N : Int) (r : List UInt8) (n : Nat) (hr : r.length = n * 16) (hn : n ≤ 1000) (x : PV) (k : Nat) (hk : k < n) (hx : x = pint .i64 k)
    (hl : look σ.heap N = some ⟨52, false, 0, [.list 1 (r.map pbyte)]⟩) (h : K (PState.put σ d (.agg ((restV r k).map pbyte)))) : @pcallI q Tryd.prog G σ d 37 [x, .ptr N 0] ⟨K⟩ := by
  subst hx
  refine pcall_lend (R := fun res H => res = .agg ((restV r k).map pbyte) ∧ H = []) N ⟨52, false, 0, [.list 1 (r.map pbyte)]⟩ hl ?_ ?_
  · have e : [pint .i64 (k : Int), PV.ptr N 0].map (frz1 N [.list 1 (r.map pbyte)]) = [pint .i64 k, .iptr [.list 1 (r.map pbyte)] 0] := by simp [frz1]
    rw [e]
    exact value_c G r n hr hn k hk
  · rintro _ _ ⟨rfl, rfl⟩
    refine ⟨rfl, Flat_all fun c hc => ?_, h⟩
    obtain ⟨b, _, rfl⟩ := List.mem_map.1 hc
    exact ⟨_, rfl⟩
theorem frz_pb (n : Int) (cs : List PV) (l : List UInt8) : ∀ u ∈ l.map pbyte, (frz n cs u).one = true := by
  intro u hu
  obtain ⟨b, _, rfl⟩ := List.mem_map.1 hu
  rfl
set_option maxRecDepth 100000 in
set_option maxHeartbeats 8000000 in
theorem hver_c (G : Globs) (hG : G 1 = .iptr (KS.map pw) 0) (p : List UInt8) (n : Int) (m s : List UInt8) (hp : p.length = 16) (hm : m.length ≤ 4000) (hs : s.length ≤ 4000) :
    PCalls Tryd.prog G 18 [.agg (p.map pbyte), pint .i64 n, pstr m, pstr s] [] (fun res H => res = .tuple [pint .i64 (verF p n m s).1, pint .i64 (verF p n m s).2] ∧ H = []) := by
  have hl0 : (p.map pbyte).length = 16 := by rw [List.length_map, hp]
  have ho0 := all_one_byte p
  have tp : List.take 16 (p.map pbyte) = p.map pbyte := List.take_of_length_le (by omega)
  obtain ⟨v, hv⟩ : ∃ v, v = verF p n m s := ⟨_, rfl⟩
  rw [← hv]
  have c0 := valid_c G n
  (refine PCalls_f Tryd.func18 rfl Tryd.ntmps18 Tryd.results18 (by simp) fun fin hfin => ?_; have hnm : True := trivial; simp (maxSteps := 2000000) (disch := omega) only [evb, evd, eve, constPV, seqK, blockK, scopeK, pbound, pelems, PV.mem?, PV.one, PV.cells, peqs, peq1, pkeys, List.set, Value.cells, ↓popG_eq, ↓pop.eq_1, ↓List.getElem?_map, ↓List.getElem?_cons_zero, ↓List.getElem?_cons_succ, Value.oneCell', Nat.reduceAdd, Nat.reduceMul, Nat.reduceSub, Nat.reduceLeDiff, Nat.reduceEqDiff, ↓reduceIte, ne_eq, reduceCtorEq, forall_const, exists_and_left, exists_eq_left', eq_self, Nat.reduceLT, Int.reduceLT, Int.reduceLE, Int.reduceToNat, Int.reduceAdd, Int.reduceSub, Int.reduceNeg, hnm, Tryd.tf0, Tryd.tf1, Tryd.tf2, Tryd.tf3, Tryd.tf4, Tryd.tf5, Tryd.tf9, Tryd.tf23, Tryd.teq23, Tryd.tf25, Tryd.tf29, Tryd.tf52, Tryd.tf67, Tryd.tf69, Tryd.call10, Tryd.call16, Tryd.call21, Tryd.call36, Tryd.call38, Tryd.call40])
  by_cases hf : 0 ≤ n ∧ n ≤ 6
  · have f1 : ¬ n < 0 := by omega
    have f2 : ¬ 6 < n := by omega
    have c1 := getInt_c G s (by omega)
    rw [show s.map pbyte = bytes s from rfl] at c1
    obtain ⟨x, u, e, hg⟩ : ∃ x u e, gI s = (x, u, e) := ⟨_, _, _, rfl⟩
    rw [hg] at c1
    have hue := gI_le s
    rw [hg] at hue
    simp only at hue
    by_cases he : e = 0
    · subst he
      obtain ⟨h, rfl⟩ : ∃ h : Nat, n = h := ⟨n.toNat, by omega⟩
      have hh : h ≤ 6 := by omega
      have hsh := shl_op ⟨h, by omega⟩
      simp only at hsh
      obtain ⟨w, hw⟩ : ∃ w, w = 2 ^ h := ⟨_, rfl⟩
      have hw64 := pow_le64 h hh
      rw [← hw] at hsh hw64
      obtain ⟨r, hr⟩ : ∃ r, r = s.drop u := ⟨_, rfl⟩
      have hrl : r.length = s.length - u := by rw [hr, List.length_drop]
      have hbr : bytes r = r.map pbyte := rfl
      by_cases hb : x < 0 ∨ (w : Int) ≤ x ∨ r.length ≠ (68 + h) * 16
      · have hv2 : v = (0, 2) := by
          rw [hv, verF, if_neg (by simpa using hf), hg, if_neg (by simp), if_pos]
          simp only [Int.toNat_natCast]
          rw [← hr]
          rw [hw] at hb
          exact_mod_cast hb
        rw [hv2] at hfin
        by_cases h0 : x < 0
        · repeat' (first
    | (with_reducible apply W_seq_k; intro nx hnx)
    | (with_reducible first | apply W_block | apply W_scope)
    | (with_reducible refine W_prune 55340232221128916767 ?_; simp only [prb, Nat.reducePow, Nat.reduceDiv, Nat.reduceMod, Nat.reduceBEq]; first | (with_reducible apply W_region_l) | with_reducible refine W_region_draw (id := 9) 1 (.op 0 true (.op 1 true (.op 2 true (.op 3 true (.op 4 true (.op 5 true (.op 6 true (.op 7 true (.op 8 true (.op 9 true (.op 10 true (.op 11 true (.op 12 true (.op 13 true (.op 14 true (.op 15 true (.done))))))))))))))))) (by kernel_rfl) ?_ | with_reducible refine W_region_draw (id := 18) 2 (.op 0 true (.op 1 true (.op 2 true (.op 4 true (.op 3 true (.op 5 false (.op 6 false (.done)))))))) (by kernel_rfl) ?_ | with_reducible refine W_region_draw (id := 19) 2 (.op 0 true (.op 1 true (.op 2 true (.op 3 true (.op 4 true (.op 5 false (.op 6 false (.done)))))))) (by kernel_rfl) ?_)
    | ((first | (with_reducible apply WL_op; intro nx hnx) | with_reducible refine Ev_out ?_ | (with_reducible apply popsD_op; intro nx hnx) | (with_reducible refine popsD_alt ?_ ?_; intro nx hnx) | (with_reducible refine pfresh_k hnm fun nm hnm => ?_; (try simp only [fmb] at hnm)) | (with_reducible refine pborn_mu hnm fun nm hnm => ?_; (try simp only [fmb] at hnm))); try (simp (maxSteps := 2000000) (disch := omega) only [evb, evd, eve, constPV, seqK, blockK, scopeK, pbound, pelems, PV.mem?, PV.one, PV.cells, peqs, peq1, pkeys, List.set, Value.cells, ↓popG_eq, ↓pop.eq_1, ↓List.getElem?_map, ↓List.getElem?_cons_zero, ↓List.getElem?_cons_succ, Value.oneCell', Nat.reduceAdd, Nat.reduceMul, Nat.reduceSub, Nat.reduceLeDiff, Nat.reduceEqDiff, ↓reduceIte, ne_eq, reduceCtorEq, forall_const, exists_and_left, exists_eq_left', eq_self, Nat.reduceLT, Int.reduceLT, Int.reduceLE, Int.reduceToNat, Int.reduceAdd, Int.reduceSub, Int.reduceNeg, hnm, Tryd.tf0, Tryd.tf1, Tryd.tf2, Tryd.tf3, Tryd.tf4, Tryd.tf5, Tryd.tf9, Tryd.tf23, Tryd.teq23, Tryd.tf25, Tryd.tf29, Tryd.tf52, Tryd.tf67, Tryd.tf69, Tryd.call10, Tryd.call16, Tryd.call21, Tryd.call36, Tryd.call38, Tryd.call40, hl0, ho0, f1, f2, h0, hsh, hue, List.take_length, hbr, List.length_map, ← hr]); repeat (refine And.intro (by omega) ?_))
    | ((with_reducible first | apply WL_nil | apply W_label | apply W_skip | apply W_exit | apply W_ret | apply popsD_done); try simp only [seqK, blockK, scopeK, ↓reduceIte, Nat.reduceEqDiff])
    | with_reducible exact popsD_stop
    | (with_reducible apply pguard_intro <;> (intro hc; (try simp only [hcb, reduceCtorEq, forall_const, ne_eq] at hc); first | (exfalso; omega) | (exfalso; exact hc trivial) | refine Ev_in ?_))
    | (with_reducible apply W_cond_k; intro _ _ ea eb; (simp only [condK, cob, opnd, constPV, Nat.reduceEqDiff, Nat.reduceLT, ↓reduceIte, hcb, reduceCtorEq, forall_const, ne_eq]); subst ea eb; first | (refine ⟨fun hc => ?_, fun hc => ?_⟩ <;> first | (exfalso; omega) | (exfalso; exact hc trivial) | skip) | skip)
    | (with_reducible apply hnx; clear hnx nx)
    | (with_reducible refine And.intro (by omega) ?_)
    | (with_reducible refine And.intro ?_ ?_)
    | (with_reducible refine pcall_k (c0) ?_; rintro _ _ ⟨rfl, rfl⟩ -; refine Ev_in ?_)
    | (with_reducible refine pcall_k (c1) ?_; rintro _ _ ⟨rfl, rfl⟩ -; refine Ev_in ?_)
    | (clear hnx nx; with_reducible apply hnx; clear hnx nx)
    | (clear hnx nx; clear hnx nx; with_reducible apply hnx; clear hnx nx))
          all_goals first
            | exact rfl
            | (exfalso
               omega)
            | (intro hh
               exfalso
               simp at hh
               omega)
            | (refine hfin _ _ (Fin_ret2 rfl rfl (Sub_nil _) ?_); simp only [List.getD_cons_zero, List.getD_cons_succ, fr_getD_cons, fr_getD_nil, Nat.reduceEqDiff, Nat.reduceLT, ↓reduceIte]; first | trivial | exact ⟨rfl, by trivial⟩ | (simp; done) | (simp; omega))
        · by_cases h1 : (w : Int) ≤ x
          · repeat' (first
    | (with_reducible apply W_seq_k; intro nx hnx)
    | (with_reducible first | apply W_block | apply W_scope)
    | (with_reducible refine W_prune 55340232221128916767 ?_; simp only [prb, Nat.reducePow, Nat.reduceDiv, Nat.reduceMod, Nat.reduceBEq]; first | (with_reducible apply W_region_l) | with_reducible refine W_region_draw (id := 9) 1 (.op 0 true (.op 1 true (.op 2 true (.op 3 true (.op 4 true (.op 5 true (.op 6 true (.op 7 true (.op 8 true (.op 9 true (.op 10 true (.op 11 true (.op 12 true (.op 13 true (.op 14 true (.op 15 true (.done))))))))))))))))) (by kernel_rfl) ?_ | with_reducible refine W_region_draw (id := 18) 2 (.op 0 true (.op 1 true (.op 2 true (.op 4 true (.op 3 true (.op 5 false (.op 6 false (.done)))))))) (by kernel_rfl) ?_ | with_reducible refine W_region_draw (id := 19) 2 (.op 0 true (.op 1 true (.op 2 true (.op 3 true (.op 4 true (.op 5 false (.op 6 false (.done)))))))) (by kernel_rfl) ?_)
    | ((first | (with_reducible apply WL_op; intro nx hnx) | with_reducible refine Ev_out ?_ | (with_reducible apply popsD_op; intro nx hnx) | (with_reducible refine popsD_alt ?_ ?_; intro nx hnx) | (with_reducible refine pfresh_k hnm fun nm hnm => ?_; (try simp only [fmb] at hnm)) | (with_reducible refine pborn_mu hnm fun nm hnm => ?_; (try simp only [fmb] at hnm))); try (simp (maxSteps := 2000000) (disch := omega) only [evb, evd, eve, constPV, seqK, blockK, scopeK, pbound, pelems, PV.mem?, PV.one, PV.cells, peqs, peq1, pkeys, List.set, Value.cells, ↓popG_eq, ↓pop.eq_1, ↓List.getElem?_map, ↓List.getElem?_cons_zero, ↓List.getElem?_cons_succ, Value.oneCell', Nat.reduceAdd, Nat.reduceMul, Nat.reduceSub, Nat.reduceLeDiff, Nat.reduceEqDiff, ↓reduceIte, ne_eq, reduceCtorEq, forall_const, exists_and_left, exists_eq_left', eq_self, Nat.reduceLT, Int.reduceLT, Int.reduceLE, Int.reduceToNat, Int.reduceAdd, Int.reduceSub, Int.reduceNeg, hnm, Tryd.tf0, Tryd.tf1, Tryd.tf2, Tryd.tf3, Tryd.tf4, Tryd.tf5, Tryd.tf9, Tryd.tf23, Tryd.teq23, Tryd.tf25, Tryd.tf29, Tryd.tf52, Tryd.tf67, Tryd.tf69, Tryd.call10, Tryd.call16, Tryd.call21, Tryd.call36, Tryd.call38, Tryd.call40, hl0, ho0, f1, f2, h0, h1, hsh, hue, List.take_length, hbr, List.length_map, ← hr]); repeat (refine And.intro (by omega) ?_))
    | ((with_reducible first | apply WL_nil | apply W_label | apply W_skip | apply W_exit | apply W_ret | apply popsD_done); try simp only [seqK, blockK, scopeK, ↓reduceIte, Nat.reduceEqDiff])
    | with_reducible exact popsD_stop
    | (with_reducible apply pguard_intro <;> (intro hc; (try simp only [hcb, reduceCtorEq, forall_const, ne_eq] at hc); first | (exfalso; omega) | (exfalso; exact hc trivial) | refine Ev_in ?_))
    | (with_reducible apply W_cond_k; intro _ _ ea eb; (simp only [condK, cob, opnd, constPV, Nat.reduceEqDiff, Nat.reduceLT, ↓reduceIte, hcb, reduceCtorEq, forall_const, ne_eq]); subst ea eb; first | (refine ⟨fun hc => ?_, fun hc => ?_⟩ <;> first | (exfalso; omega) | (exfalso; exact hc trivial) | skip) | skip)
    | (with_reducible apply hnx; clear hnx nx)
    | (with_reducible refine And.intro (by omega) ?_)
    | (with_reducible refine And.intro ?_ ?_)
    | (with_reducible refine pcall_k (c0) ?_; rintro _ _ ⟨rfl, rfl⟩ -; refine Ev_in ?_)
    | (with_reducible refine pcall_k (c1) ?_; rintro _ _ ⟨rfl, rfl⟩ -; refine Ev_in ?_)
    | (clear hnx nx; with_reducible apply hnx; clear hnx nx)
    | (clear hnx nx; clear hnx nx; with_reducible apply hnx; clear hnx nx))
            all_goals first
              | exact rfl
              | (exfalso
                 omega)
              | (intro hh
                 exfalso
                 simp at hh
                 omega)
              | (refine hfin _ _ (Fin_ret2 rfl rfl (Sub_nil _) ?_); simp only [List.getD_cons_zero, List.getD_cons_succ, fr_getD_cons, fr_getD_nil, Nat.reduceEqDiff, Nat.reduceLT, ↓reduceIte]; first | trivial | exact ⟨rfl, by trivial⟩ | (simp; done) | (simp; omega))
          · have h2 : ¬ r.length = (68 + h) * 16 := by
              rcases hb with h3 | h3 | h3
              · exact absurd h3 h0
              · exact absurd h3 h1
              · exact h3
            have h3 : ¬ (r.length : Int) = (68 + (h : Int)) * 16 := by omega
            have h4 : x < (w : Int) := by omega
            repeat' (first
    | (with_reducible apply W_seq_k; intro nx hnx)
    | (with_reducible first | apply W_block | apply W_scope)
    | (with_reducible refine W_prune 55340232221128916767 ?_; simp only [prb, Nat.reducePow, Nat.reduceDiv, Nat.reduceMod, Nat.reduceBEq]; first | (with_reducible apply W_region_l) | with_reducible refine W_region_draw (id := 9) 1 (.op 0 true (.op 1 true (.op 2 true (.op 3 true (.op 4 true (.op 5 true (.op 6 true (.op 7 true (.op 8 true (.op 9 true (.op 10 true (.op 11 true (.op 12 true (.op 13 true (.op 14 true (.op 15 true (.done))))))))))))))))) (by kernel_rfl) ?_ | with_reducible refine W_region_draw (id := 18) 2 (.op 0 true (.op 1 true (.op 2 true (.op 4 true (.op 3 true (.op 5 false (.op 6 false (.done)))))))) (by kernel_rfl) ?_ | with_reducible refine W_region_draw (id := 19) 2 (.op 0 true (.op 1 true (.op 2 true (.op 3 true (.op 4 true (.op 5 false (.op 6 false (.done)))))))) (by kernel_rfl) ?_)
    | ((first | (with_reducible apply WL_op; intro nx hnx) | with_reducible refine Ev_out ?_ | (with_reducible apply popsD_op; intro nx hnx) | (with_reducible refine popsD_alt ?_ ?_; intro nx hnx) | (with_reducible refine pfresh_k hnm fun nm hnm => ?_; (try simp only [fmb] at hnm)) | (with_reducible refine pborn_mu hnm fun nm hnm => ?_; (try simp only [fmb] at hnm))); try (simp (maxSteps := 2000000) (disch := omega) only [evb, evd, eve, constPV, seqK, blockK, scopeK, pbound, pelems, PV.mem?, PV.one, PV.cells, peqs, peq1, pkeys, List.set, Value.cells, ↓popG_eq, ↓pop.eq_1, ↓List.getElem?_map, ↓List.getElem?_cons_zero, ↓List.getElem?_cons_succ, Value.oneCell', Nat.reduceAdd, Nat.reduceMul, Nat.reduceSub, Nat.reduceLeDiff, Nat.reduceEqDiff, ↓reduceIte, ne_eq, reduceCtorEq, forall_const, exists_and_left, exists_eq_left', eq_self, Nat.reduceLT, Int.reduceLT, Int.reduceLE, Int.reduceToNat, Int.reduceAdd, Int.reduceSub, Int.reduceNeg, hnm, Tryd.tf0, Tryd.tf1, Tryd.tf2, Tryd.tf3, Tryd.tf4, Tryd.tf5, Tryd.tf9, Tryd.tf23, Tryd.teq23, Tryd.tf25, Tryd.tf29, Tryd.tf52, Tryd.tf67, Tryd.tf69, Tryd.call10, Tryd.call16, Tryd.call21, Tryd.call36, Tryd.call38, Tryd.call40, hl0, ho0, f1, f2, h0, h4, h3, hsh, hue, List.take_length, hbr, List.length_map, ← hr]); repeat (refine And.intro (by omega) ?_))
    | ((with_reducible first | apply WL_nil | apply W_label | apply W_skip | apply W_exit | apply W_ret | apply popsD_done); try simp only [seqK, blockK, scopeK, ↓reduceIte, Nat.reduceEqDiff])
    | with_reducible exact popsD_stop
    | (with_reducible apply pguard_intro <;> (intro hc; (try simp only [hcb, reduceCtorEq, forall_const, ne_eq] at hc); first | (exfalso; omega) | (exfalso; exact hc trivial) | refine Ev_in ?_))
    | (with_reducible apply W_cond_k; intro _ _ ea eb; (simp only [condK, cob, opnd, constPV, Nat.reduceEqDiff, Nat.reduceLT, ↓reduceIte, hcb, reduceCtorEq, forall_const, ne_eq]); subst ea eb; first | (refine ⟨fun hc => ?_, fun hc => ?_⟩ <;> first | (exfalso; omega) | (exfalso; exact hc trivial) | skip) | skip)
    | (with_reducible apply hnx; clear hnx nx)
    | (with_reducible refine And.intro (by omega) ?_)
    | (with_reducible refine And.intro ?_ ?_)
    | (with_reducible refine pcall_k (c0) ?_; rintro _ _ ⟨rfl, rfl⟩ -; refine Ev_in ?_)
    | (with_reducible refine pcall_k (c1) ?_; rintro _ _ ⟨rfl, rfl⟩ -; refine Ev_in ?_)
    | (clear hnx nx; with_reducible apply hnx; clear hnx nx)
    | (clear hnx nx; clear hnx nx; with_reducible apply hnx; clear hnx nx))
            all_goals first
              | exact rfl
              | (exfalso
                 omega)
              | (intro hh
                 exfalso
                 simp at hh
                 omega)
              | (refine hfin _ _ (Fin_ret2 rfl rfl (Sub_nil _) ?_); simp only [List.getD_cons_zero, List.getD_cons_succ, fr_getD_cons, fr_getD_nil, Nat.reduceEqDiff, Nat.reduceLT, ↓reduceIte]; first | trivial | exact ⟨rfl, by trivial⟩ | (simp; done) | (simp; omega))
      · have h0 : ¬ x < 0 := fun h => hb (.inl h)
        have h4 : x < (w : Int) := by
          have : ¬ (w : Int) ≤ x := fun h => hb (.inr (.inl h))
          omega
        have h3 : r.length = (68 + h) * 16 := by
          by_cases h5 : r.length = (68 + h) * 16
          · exact h5
          · exact absurd (.inr (.inr h5)) hb
        have h6 : (r.length : Int) = (68 + (h : Int)) * 16 := by omega
        obtain ⟨k, rfl⟩ : ∃ k : Nat, x = k := ⟨x.toNat, by omega⟩
        have hi : inR (k : Int) := ⟨by omega, by omega⟩
        have hroot : v = if rootF p h k m r = p then ((k : Int), 0) else (0, 10) := by
          rw [hv, verF, if_neg (by simpa using hf), hg, if_neg (by simp), if_neg]
          · simp only [Int.toNat_natCast]
            rw [← hr]
          · simp only [Int.toNat_natCast]
            rw [← hr]
            rw [hw] at hb
            exact_mod_cast hb
        have hE : rootF p h k m r = wayF r k (leafF (vfV k (digF (digestF p k m)) r)) h := rfl
        rw [hE] at hroot
        clear hE
        have c2 := hdig_c G hG p k m hp hi hm
        have hdl := digestF_len p k m
        have c3 := dig_c G (digestF p k m) hdl
        have cc := fun c hc => chain_c G hG r (68 + h) h3 (by omega) (by omega) k hi (digestF p k m) c hc
        have cl := leaf_c G hG 39 [.iptr [pint .i64 k] 0, .iptr [.list 1 ((digF (digestF p k m)).map pn')] 0, .iptr [.func 37 [.iptr [.list 1 (r.map pbyte)] 0]] 0] (vfV k (digF (digestF p k m)) r) (fun c hc => advF_len _ _ _ _ _ (restV_len h3 (by omega))) (by kernel_rfl) cc
        clear cc
        have hol := leafF_len (vfV k (digF (digestF p k m)) r)
        have hbr : bytes r = r.map pbyte := rfl
        generalize leafF (vfV k (digF (digestF p k m)) r) = f at *
        generalize digF (digestF p k m) = q at *
        generalize digestF p k m = d at *
        have hmr : (r.map pbyte).length = (68 + h) * 16 := by rw [List.length_map, h3]
        repeat' (first
    | (with_reducible apply W_seq_k; intro nx hnx)
    | (with_reducible first | apply W_block | apply W_scope)
    | (with_reducible refine W_prune 55340232221128916767 ?_; simp only [prb, Nat.reducePow, Nat.reduceDiv, Nat.reduceMod, Nat.reduceBEq]; first | (with_reducible apply W_region_l) | with_reducible refine W_region_draw (id := 9) 1 (.op 0 true (.op 1 true (.op 2 true (.op 3 true (.op 4 true (.op 5 true (.op 6 true (.op 7 true (.op 8 true (.op 9 true (.op 10 true (.op 11 true (.op 12 true (.op 13 true (.op 14 true (.op 15 true (.done))))))))))))))))) (by kernel_rfl) ?_ | with_reducible refine W_region_draw (id := 18) 2 (.op 0 true (.op 1 true (.op 2 true (.op 4 true (.op 3 true (.op 5 false (.op 6 false (.done)))))))) (by kernel_rfl) ?_ | with_reducible refine W_region_draw (id := 19) 2 (.op 0 true (.op 1 true (.op 2 true (.op 3 true (.op 4 true (.op 5 false (.op 6 false (.done)))))))) (by kernel_rfl) ?_)
    | ((first | (with_reducible apply WL_op; intro nx hnx) | with_reducible refine Ev_out ?_ | (with_reducible apply popsD_op; intro nx hnx) | (with_reducible refine popsD_alt ?_ ?_; intro nx hnx) | (with_reducible refine pfresh_k hnm fun nm hnm => ?_; (try simp only [fmb] at hnm)) | (with_reducible refine pborn_mu hnm fun nm hnm => ?_; (try simp only [fmb] at hnm))); try (simp (maxSteps := 2000000) (disch := omega) only [evb, evd, eve, constPV, seqK, blockK, scopeK, pbound, pelems, PV.mem?, PV.one, PV.cells, peqs, peq1, pkeys, List.set, Value.cells, ↓popG_eq, ↓pop.eq_1, ↓List.getElem?_map, ↓List.getElem?_cons_zero, ↓List.getElem?_cons_succ, Value.oneCell', Nat.reduceAdd, Nat.reduceMul, Nat.reduceSub, Nat.reduceLeDiff, Nat.reduceEqDiff, ↓reduceIte, ne_eq, reduceCtorEq, forall_const, exists_and_left, exists_eq_left', eq_self, Nat.reduceLT, Int.reduceLT, Int.reduceLE, Int.reduceToNat, Int.reduceAdd, Int.reduceSub, Int.reduceNeg, hnm, Tryd.tf0, Tryd.tf1, Tryd.tf2, Tryd.tf3, Tryd.tf4, Tryd.tf5, Tryd.tf9, Tryd.tf23, Tryd.teq23, Tryd.tf25, Tryd.tf29, Tryd.tf52, Tryd.tf67, Tryd.tf69, Tryd.call10, Tryd.call16, Tryd.call21, Tryd.call36, Tryd.call38, Tryd.call40, hl0, ho0, tp, f1, f2, h0, h4, h6, h3, hmr, hbr, hsh, hue, List.take_length, ← hr]); repeat (refine And.intro (by omega) ?_))
    | ((with_reducible first | apply WL_nil | apply W_label | apply W_skip | apply W_exit | apply W_ret | apply popsD_done); try simp only [seqK, blockK, scopeK, ↓reduceIte, Nat.reduceEqDiff])
    | with_reducible exact popsD_stop
    | (with_reducible apply pguard_intro <;> (intro hc; (try simp only [hcb, reduceCtorEq, forall_const, ne_eq] at hc); first | (exfalso; omega) | (exfalso; exact hc trivial) | refine Ev_in ?_))
    | (with_reducible apply W_cond_k; intro _ _ ea eb; (simp only [condK, cob, opnd, constPV, Nat.reduceEqDiff, Nat.reduceLT, ↓reduceIte, hcb, reduceCtorEq, forall_const, ne_eq]); subst ea eb; first | (refine ⟨fun hc => ?_, fun hc => ?_⟩ <;> first | (exfalso; omega) | (exfalso; exact hc trivial) | skip) | skip)
    | (with_reducible apply hnx; clear hnx nx)
    | (with_reducible refine And.intro (by omega) ?_)
    | (with_reducible refine And.intro ?_ ?_)
    | (with_reducible refine pcall_k (c0) ?_; rintro _ _ ⟨rfl, rfl⟩ -; refine Ev_in ?_)
    | (with_reducible refine pcall_k (c1) ?_; rintro _ _ ⟨rfl, rfl⟩ -; refine Ev_in ?_)
    | (with_reducible refine pcall_k (c2) ?_; rintro _ _ ⟨rfl, rfl⟩ -; refine Ev_in ?_)
    | (with_reducible refine pcall_k (c3) ?_; rintro _ _ ⟨rfl, rfl⟩ -; refine Ev_in ?_)
    | (clear hnx nx; with_reducible apply hnx; clear hnx nx)
    | (clear hnx nx; clear hnx nx; with_reducible apply hnx; clear hnx nx))
        all_goals first
          | exact absurd trivial hc
          | exact rfl
          | (exfalso
             omega)
          | (intro hh
             exfalso
             simp at hh
             done)
          | (intro hh
             exfalso
             simp at hh
             omega)
          | skip
        obtain ⟨N15, hN15⟩ : ∃ N, N = nm := ⟨_, rfl⟩
        subst hN15
        obtain ⟨N14, hN14⟩ : ∃ N, N = nm := ⟨_, rfl⟩
        subst hN14
        obtain ⟨N13, hN13⟩ : ∃ N, N = nm := ⟨_, rfl⟩
        subst hN13
        obtain ⟨N10, hN10⟩ : ∃ N, N = nm := ⟨_, rfl⟩
        subst hN10
        obtain ⟨NP, hNP⟩ : ∃ N, N = nm := ⟨_, rfl⟩
        subst hNP
        have hpb := frz_pb
        refine pcall_lendL [.func 39 [.iptr [pint .i64 k] 0, .iptr [.list 1 (q.map pn')] 0, .iptr [.func 37 [.iptr [.list 1 (r.map pbyte)] 0]] 0]] (R := fun res H => res = .agg (f.map pbyte) ∧ H = [])
          (.step N13 ⟨52, false, 0, [.list 1 (r.map pbyte)]⟩ (by simp [look, hnm]) (by
            simp only [del, hnm, if_false, if_true, List.forall_mem_cons, List.not_mem_nil, false_implies, implies_true, and_true]
            exact ⟨rfl, rfl, rfl, hpb _ _ _⟩)
          (.step N14 ⟨69, false, 0, [.func 37 [.iptr [.list 1 (r.map pbyte)] 0]]⟩ (by simp [look, frzD, del, frz, frz1, hnm]) (by
            simp [frzD, del, frz, frz1, hnm, PV.one, Value.oneCell'])
          (.step N10 ⟨3, false, 0, [pint .i64 k]⟩ (by simp [look, frzD, del, frz, frz1, hnm]) (by
            simp [frzD, del, frz, frz1, hnm, PV.one, Value.oneCell'])
          (.step N15 ⟨25, false, 0, [.list 1 (q.map pn')]⟩ (by simp [look, frzD, del, frz, frz1, hnm]) (by
            simp [frzD, del, frz, frz1, hnm, PV.one, Value.oneCell'])
          (.done _ (by simp [frz, frz1, hnm])))))) cl ?_
        rintro _ _ ⟨rfl, rfl⟩
        refine ⟨rfl, Flat_all fun c hc => ?_, ?_⟩
        · obtain ⟨b, _, rfl⟩ := List.mem_map.1 hc
          exact ⟨_, rfl⟩
        clear cl c0 c1 c2 c3 hpb hdl
        have hne := hnm
        clear hnm
        have hfo := all_one_byte f
        have hfl : (f.map pbyte).length = 16 := by rw [List.length_map, hol]
        have tf : List.take 16 (f.map pbyte) = f.map pbyte := List.take_of_length_le (by omega)
        obtain ⟨Z, hZ⟩ : ∃ Z, Z = List.replicate 16 (pint .u8 0) := ⟨_, rfl⟩
        have hZ2 : [pint .u8 0, pint .u8 0, pint .u8 0, pint .u8 0, pint .u8 0, pint .u8 0, pint .u8 0, pint .u8 0, pint .u8 0, pint .u8 0, pint .u8 0, pint .u8 0, pint .u8 0, pint .u8 0, pint .u8 0, pint .u8 0] = Z := by rw [hZ]; rfl
        have hZl : Z.length = 16 := by rw [hZ]; rfl
        have hZd : List.drop 16 Z = [] := List.drop_of_length_le (by omega)
        have hZo : Z.all PV.one = true := by rw [hZ]; rfl
        refine Ev_in ?_
        repeat' (first
    | (with_reducible apply W_seq_k; intro nx hnx)
    | (with_reducible first | apply W_block | apply W_scope)
    | (with_reducible refine W_prune 55340232221128916767 ?_; simp only [prb, Nat.reducePow, Nat.reduceDiv, Nat.reduceMod, Nat.reduceBEq]; first | (with_reducible apply W_region_l) | with_reducible refine W_region_draw (id := 9) 1 (.op 0 true (.op 1 true (.op 2 true (.op 3 true (.op 4 true (.op 5 true (.op 6 true (.op 7 true (.op 8 true (.op 9 true (.op 10 true (.op 11 true (.op 12 true (.op 13 true (.op 14 true (.op 15 true (.done))))))))))))))))) (by kernel_rfl) ?_ | with_reducible refine W_region_draw (id := 18) 2 (.op 0 true (.op 1 true (.op 2 true (.op 4 true (.op 3 true (.op 5 false (.op 6 false (.done)))))))) (by kernel_rfl) ?_ | with_reducible refine W_region_draw (id := 19) 2 (.op 0 true (.op 1 true (.op 2 true (.op 3 true (.op 4 true (.op 5 false (.op 6 false (.done)))))))) (by kernel_rfl) ?_)
    | ((first | (with_reducible apply WL_op; intro nx hnx) | with_reducible refine Ev_out ?_ | (with_reducible apply popsD_op; intro nx hnx) | (with_reducible refine popsD_alt ?_ ?_; intro nx hnx) | (with_reducible refine pfresh_k hnm fun nm hnm => ?_; (try simp only [fmb] at hnm)) | (with_reducible refine pborn_mu hnm fun nm hnm => ?_; (try simp only [fmb] at hnm))); try (simp (maxSteps := 2000000) (disch := omega) only [evb, evd, eve, constPV, seqK, blockK, scopeK, pbound, pelems, PV.mem?, PV.one, PV.cells, peqs, peq1, pkeys, List.set, Value.cells, ↓popG_eq, ↓pop.eq_1, ↓List.getElem?_map, ↓List.getElem?_cons_zero, ↓List.getElem?_cons_succ, Value.oneCell', Nat.reduceAdd, Nat.reduceMul, Nat.reduceSub, Nat.reduceLeDiff, Nat.reduceEqDiff, ↓reduceIte, ne_eq, reduceCtorEq, forall_const, exists_and_left, exists_eq_left', eq_self, Nat.reduceLT, Int.reduceLT, Int.reduceLE, Int.reduceToNat, Int.reduceAdd, Int.reduceSub, Int.reduceNeg, hnm, Tryd.tf0, Tryd.tf1, Tryd.tf2, Tryd.tf3, Tryd.tf4, Tryd.tf5, Tryd.tf9, Tryd.tf23, Tryd.teq23, Tryd.tf25, Tryd.tf29, Tryd.tf52, Tryd.tf67, Tryd.tf69, Tryd.call10, Tryd.call16, Tryd.call21, Tryd.call36, Tryd.call38, Tryd.call40, hne, hfo, hfl, tf, hZ2, hZl, hZd, hZo]); repeat (refine And.intro (by omega) ?_))
    | ((with_reducible first | apply WL_nil | apply W_label | apply W_skip | apply W_exit | apply W_ret | apply popsD_done); try simp only [seqK, blockK, scopeK, ↓reduceIte, Nat.reduceEqDiff])
    | with_reducible exact popsD_stop
    | (with_reducible apply pguard_intro <;> (intro hc; (try simp only [hcb, reduceCtorEq, forall_const, ne_eq] at hc); first | (exfalso; omega) | (exfalso; exact hc trivial) | refine Ev_in ?_))
    | (with_reducible apply W_cond_k; intro _ _ ea eb; (simp only [condK, cob, opnd, constPV, Nat.reduceEqDiff, Nat.reduceLT, ↓reduceIte, hcb, reduceCtorEq, forall_const, ne_eq]); subst ea eb; first | (refine ⟨fun hc => ?_, fun hc => ?_⟩ <;> first | (exfalso; omega) | (exfalso; exact hc trivial) | skip) | skip)
    | (with_reducible apply hnx; clear hnx nx)
    | (with_reducible refine And.intro (by omega) ?_)
    | (with_reducible refine And.intro ?_ ?_)
    | (clear hnx nx; with_reducible apply hnx; clear hnx nx)
    | (clear hnx nx; clear hnx nx; with_reducible apply hnx; clear hnx nx))
        all_goals first
          | exact rfl
          | (exfalso
             omega)
          | skip
        obtain ⟨NV, hNV⟩ : ∃ N, N = nm := ⟨_, rfl⟩
        subst hNV
        have hway := wayF_len r k f hol
        have hne2 := hnm
        have hca : callable Tryd.prog 37 = true := by kernel_rfl
        refine W_loop_k (fun z τ => ∃ (l : Nat) (y : List UInt8), l ≤ h ∧ z = h - l ∧ y = wayF r k f l ∧
            τ = ⟨fr 90 [(65, pint .i64 l), (64, pint .i64 h), (16, .ptr NV 0), (14, .ptr N14 0), (10, .ptr N10 0), (4, .ptr NP 0)],
              [(NV, ⟨23, false, 0, y.map pbyte⟩), (N14, ⟨69, false, 0, [.func 37 [.ptr N13 0]]⟩), (N13, ⟨52, false, 0, [.list 1 (r.map pbyte)]⟩), (N10, ⟨3, false, 0, [pint .i64 k]⟩), (NP, ⟨23, false, 0, p.map pbyte⟩)]⟩) h
          ⟨fr 90 [(65, pint .i64 (0 : Nat)), (64, pint .i64 h), (16, .ptr NV 0), (14, .ptr N14 0), (10, .ptr N10 0), (4, .ptr NP 0)],
              [(NV, ⟨23, false, 0, f.map pbyte⟩), (N14, ⟨69, false, 0, [.func 37 [.ptr N13 0]]⟩), (N13, ⟨52, false, 0, [.list 1 (r.map pbyte)]⟩), (N10, ⟨3, false, 0, [pint .i64 k]⟩), (NP, ⟨23, false, 0, p.map pbyte⟩)]⟩ (by
          refine Wk_fr (by simp only [wkb, Nat.reduceEqDiff, Nat.reduceLT, ↓reduceIte]) ?_
          exact ⟨by simp, by simp [names, hne2, hne]⟩) ⟨0, f, by omega, by omega, rfl, rfl⟩ ?_
        rintro z τ ⟨l, y, hl, rfl, hy, rfl⟩ lp2 hlp2
        have hyl : y.length = 16 := by rw [hy, hway]
        have hoy := all_one_byte y
        have hyl2 : (y.map pbyte).length = 16 := by rw [List.length_map, hyl]
        have ty : List.take 16 (y.map pbyte) = y.map pbyte := List.take_of_length_le (by omega)
        have hyd : List.drop 16 (y.map pbyte) = [] := List.drop_of_length_le (by omega)
        by_cases hlh : l < h
        · have hway2 : wayF r k f (l + 1) = if (k / 2 ^ l) % 2 = 1 then nodeF (restV r (68 + l)) (wayF r k f l) else nodeF (wayF r k f l) (restV r (68 + l)) := rfl
          rw [← hy] at hway2
          have hv16 : (restV r (68 + l)).length = 16 := restV_len h3 (by omega)
          have d2 := node_c G hG (restV r (68 + l)) y hv16 hyl
          have d3 := node_c G hG y (restV r (68 + l)) hyl hv16
          have hn1 := nodeF_len (restV r (68 + l)) y
          have hn2 := nodeF_len y (restV r (68 + l))
          have hwl : (wayF r k f (l + 1)).length = 16 := hway (l + 1)
          have g1 := shr_op k l (by omega)
          have hj64 : k / 2 ^ l ≤ 64 := Nat.le_trans (Nat.div_le_self _ _) (by omega)
          have g2 := and_one ⟨k / 2 ^ l, by omega⟩
          simp only at g2
          have hcx : pint .i64 (68 + (l : Int)) = pint .i64 ((68 + l : Nat) : Int) := congrArg (pint .i64) (by omega)
          have vl := fun (σ : PState) (q : Bool) (d : Option Tmp) (K : PState → Prop) => @value_lend G σ q d K N13 r (68 + h) h3 (by omega) (pint .i64 (68 + (l : Int))) (68 + l) (by omega) hcx
          have hx2 : ((restV r (68 + l)).map pbyte).length = 16 := by rw [List.length_map, hv16]
          have tx : List.take 16 ((restV r (68 + l)).map pbyte) = (restV r (68 + l)).map pbyte := List.take_of_length_le (by omega)
          have hox := all_one_byte (restV r (68 + l))
          generalize restV r (68 + l) = x2 at *
          generalize k / 2 ^ l = j at *
          by_cases hodd : j % 2 = 1
          · rw [if_pos hodd] at hway2
            rw [hodd] at g2
            generalize nodeF x2 y = z2 at *
            have hoz := all_one_byte z2
            have hz2 : (z2.map pbyte).length = 16 := by rw [List.length_map, hn1]
            have tz : List.take 16 (z2.map pbyte) = z2.map pbyte := List.take_of_length_le (by omega)
            repeat' (first
    | (with_reducible apply W_seq_k; intro nx hnx)
    | (with_reducible first | apply W_block | apply W_scope)
    | (with_reducible refine W_prune 55340232221128916767 ?_; simp only [prb, Nat.reducePow, Nat.reduceDiv, Nat.reduceMod, Nat.reduceBEq]; first | (with_reducible apply W_region_l) | with_reducible refine W_region_draw (id := 9) 1 (.op 0 true (.op 1 true (.op 2 true (.op 3 true (.op 4 true (.op 5 true (.op 6 true (.op 7 true (.op 8 true (.op 9 true (.op 10 true (.op 11 true (.op 12 true (.op 13 true (.op 14 true (.op 15 true (.done))))))))))))))))) (by kernel_rfl) ?_ | with_reducible refine W_region_draw (id := 18) 2 (.op 0 true (.op 1 true (.op 2 true (.op 4 true (.op 3 true (.op 5 false (.op 6 false (.done)))))))) (by kernel_rfl) ?_ | with_reducible refine W_region_draw (id := 19) 2 (.op 0 true (.op 1 true (.op 2 true (.op 3 true (.op 4 true (.op 5 false (.op 6 false (.done)))))))) (by kernel_rfl) ?_)
    | ((first | (with_reducible apply WL_op; intro nx hnx) | with_reducible refine Ev_out ?_ | (with_reducible apply popsD_op; intro nx hnx) | (with_reducible refine popsD_alt ?_ ?_; intro nx hnx) | (with_reducible refine pfresh_k hnm fun nm hnm => ?_; (try simp only [fmb] at hnm)) | (with_reducible refine pborn_mu hnm fun nm hnm => ?_; (try simp only [fmb] at hnm))); try (simp (maxSteps := 2000000) (disch := omega) only [evb, evd, eve, constPV, seqK, blockK, scopeK, pbound, pelems, PV.mem?, PV.one, PV.cells, peqs, peq1, pkeys, List.set, Value.cells, ↓popG_eq, ↓pop.eq_1, ↓List.getElem?_map, ↓List.getElem?_cons_zero, ↓List.getElem?_cons_succ, Value.oneCell', Nat.reduceAdd, Nat.reduceMul, Nat.reduceSub, Nat.reduceLeDiff, Nat.reduceEqDiff, ↓reduceIte, ne_eq, reduceCtorEq, forall_const, exists_and_left, exists_eq_left', eq_self, Nat.reduceLT, Int.reduceLT, Int.reduceLE, Int.reduceToNat, Int.reduceAdd, Int.reduceSub, Int.reduceNeg, hnm, Tryd.tf0, Tryd.tf1, Tryd.tf2, Tryd.tf3, Tryd.tf4, Tryd.tf5, Tryd.tf9, Tryd.tf23, Tryd.teq23, Tryd.tf25, Tryd.tf29, Tryd.tf52, Tryd.tf67, Tryd.tf69, Tryd.call10, Tryd.call16, Tryd.call21, Tryd.call36, Tryd.call38, Tryd.call40, hca, hne2, hne, hlh, hoy, hyl2, ty, hyd, hox, hx2, tx, hoz, hz2, tz, g1, g2]); repeat (refine And.intro (by omega) ?_))
    | ((with_reducible first | apply WL_nil | apply W_label | apply W_skip | apply W_exit | apply W_ret | apply popsD_done); try simp only [seqK, blockK, scopeK, ↓reduceIte, Nat.reduceEqDiff])
    | with_reducible exact popsD_stop
    | (with_reducible apply pguard_intro <;> (intro hc; (try simp only [hcb, reduceCtorEq, forall_const, ne_eq] at hc); first | (exfalso; omega) | (exfalso; exact hc trivial) | refine Ev_in ?_))
    | (with_reducible apply W_cond_k; intro _ _ ea eb; (simp only [condK, cob, opnd, constPV, Nat.reduceEqDiff, Nat.reduceLT, ↓reduceIte, hcb, reduceCtorEq, forall_const, ne_eq]); subst ea eb; first | (refine ⟨fun hc => ?_, fun hc => ?_⟩ <;> first | (exfalso; omega) | (exfalso; exact hc trivial) | skip) | skip)
    | (with_reducible apply hnx; clear hnx nx)
    | (with_reducible refine And.intro (by omega) ?_)
    | (with_reducible refine And.intro ?_ ?_)
    | (with_reducible refine pcall_k (d2) ?_; rintro _ _ ⟨rfl, rfl⟩ -; refine Ev_in ?_)
    | ((refine vl _ _ _ _ (by simp [look, hne2, hne]) ?_; refine Ev_in ?_))
    | (clear hnx nx; with_reducible apply hnx; clear hnx nx)
    | (clear hnx nx; clear hnx nx; with_reducible apply hnx; clear hnx nx))
            all_goals first
              | exact rfl
              | (exfalso
                 omega)
              | (refine hlp2 _ (h - (l + 1)) _ (by omega) ?_ ⟨l + 1, z2, by omega, rfl, hway2.symm, rfl⟩
                 refine Wk_fr (by simp only [wkb, Nat.reduceEqDiff, Nat.reduceLT, ↓reduceIte]) ?_
                 exact ⟨by simp, by simp [names, hne2, hne]⟩)
          · rw [if_neg hodd] at hway2
            rw [show j % 2 = 0 by omega] at g2
            generalize nodeF y x2 = z2 at *
            have hoz := all_one_byte z2
            have hz2 : (z2.map pbyte).length = 16 := by rw [List.length_map, hn2]
            have tz : List.take 16 (z2.map pbyte) = z2.map pbyte := List.take_of_length_le (by omega)
            repeat' (first
    | (with_reducible apply W_seq_k; intro nx hnx)
    | (with_reducible first | apply W_block | apply W_scope)
    | (with_reducible refine W_prune 55340232221128916767 ?_; simp only [prb, Nat.reducePow, Nat.reduceDiv, Nat.reduceMod, Nat.reduceBEq]; first | (with_reducible apply W_region_l) | with_reducible refine W_region_draw (id := 9) 1 (.op 0 true (.op 1 true (.op 2 true (.op 3 true (.op 4 true (.op 5 true (.op 6 true (.op 7 true (.op 8 true (.op 9 true (.op 10 true (.op 11 true (.op 12 true (.op 13 true (.op 14 true (.op 15 true (.done))))))))))))))))) (by kernel_rfl) ?_ | with_reducible refine W_region_draw (id := 18) 2 (.op 0 true (.op 1 true (.op 2 true (.op 4 true (.op 3 true (.op 5 false (.op 6 false (.done)))))))) (by kernel_rfl) ?_ | with_reducible refine W_region_draw (id := 19) 2 (.op 0 true (.op 1 true (.op 2 true (.op 3 true (.op 4 true (.op 5 false (.op 6 false (.done)))))))) (by kernel_rfl) ?_)
    | ((first | (with_reducible apply WL_op; intro nx hnx) | with_reducible refine Ev_out ?_ | (with_reducible apply popsD_op; intro nx hnx) | (with_reducible refine popsD_alt ?_ ?_; intro nx hnx) | (with_reducible refine pfresh_k hnm fun nm hnm => ?_; (try simp only [fmb] at hnm)) | (with_reducible refine pborn_mu hnm fun nm hnm => ?_; (try simp only [fmb] at hnm))); try (simp (maxSteps := 2000000) (disch := omega) only [evb, evd, eve, constPV, seqK, blockK, scopeK, pbound, pelems, PV.mem?, PV.one, PV.cells, peqs, peq1, pkeys, List.set, Value.cells, ↓popG_eq, ↓pop.eq_1, ↓List.getElem?_map, ↓List.getElem?_cons_zero, ↓List.getElem?_cons_succ, Value.oneCell', Nat.reduceAdd, Nat.reduceMul, Nat.reduceSub, Nat.reduceLeDiff, Nat.reduceEqDiff, ↓reduceIte, ne_eq, reduceCtorEq, forall_const, exists_and_left, exists_eq_left', eq_self, Nat.reduceLT, Int.reduceLT, Int.reduceLE, Int.reduceToNat, Int.reduceAdd, Int.reduceSub, Int.reduceNeg, hnm, Tryd.tf0, Tryd.tf1, Tryd.tf2, Tryd.tf3, Tryd.tf4, Tryd.tf5, Tryd.tf9, Tryd.tf23, Tryd.teq23, Tryd.tf25, Tryd.tf29, Tryd.tf52, Tryd.tf67, Tryd.tf69, Tryd.call10, Tryd.call16, Tryd.call21, Tryd.call36, Tryd.call38, Tryd.call40, hca, hne2, hne, hlh, hoy, hyl2, ty, hyd, hox, hx2, tx, hoz, hz2, tz, g1, g2]); repeat (refine And.intro (by omega) ?_))
    | ((with_reducible first | apply WL_nil | apply W_label | apply W_skip | apply W_exit | apply W_ret | apply popsD_done); try simp only [seqK, blockK, scopeK, ↓reduceIte, Nat.reduceEqDiff])
    | with_reducible exact popsD_stop
    | (with_reducible apply pguard_intro <;> (intro hc; (try simp only [hcb, reduceCtorEq, forall_const, ne_eq] at hc); first | (exfalso; omega) | (exfalso; exact hc trivial) | refine Ev_in ?_))
    | (with_reducible apply W_cond_k; intro _ _ ea eb; (simp only [condK, cob, opnd, constPV, Nat.reduceEqDiff, Nat.reduceLT, ↓reduceIte, hcb, reduceCtorEq, forall_const, ne_eq]); subst ea eb; first | (refine ⟨fun hc => ?_, fun hc => ?_⟩ <;> first | (exfalso; omega) | (exfalso; exact hc trivial) | skip) | skip)
    | (with_reducible apply hnx; clear hnx nx)
    | (with_reducible refine And.intro (by omega) ?_)
    | (with_reducible refine And.intro ?_ ?_)
    | (with_reducible refine pcall_k (d3) ?_; rintro _ _ ⟨rfl, rfl⟩ -; refine Ev_in ?_)
    | ((refine vl _ _ _ _ (by simp [look, hne2, hne]) ?_; refine Ev_in ?_))
    | (clear hnx nx; with_reducible apply hnx; clear hnx nx)
    | (clear hnx nx; clear hnx nx; with_reducible apply hnx; clear hnx nx))
            all_goals first
              | exact rfl
              | (exfalso
                 omega)
              | (refine hlp2 _ (h - (l + 1)) _ (by omega) ?_ ⟨l + 1, z2, by omega, rfl, hway2.symm, rfl⟩
                 refine Wk_fr (by simp only [wkb, Nat.reduceEqDiff, Nat.reduceLT, ↓reduceIte]) ?_
                 exact ⟨by simp, by simp [names, hne2, hne]⟩)
        · obtain rfl : l = h := by omega
          have hq := q16 y p hyl hp
          rw [← hy] at hroot
          by_cases hyp : y = p
          · rw [if_pos hyp] at hroot
            rw [decide_eq_true hyp] at hq
            rw [hroot] at hfin
            repeat' (first
    | (with_reducible apply W_seq_k; intro nx hnx)
    | (with_reducible first | apply W_block | apply W_scope)
    | (with_reducible refine W_prune 55340232221128916767 ?_; simp only [prb, Nat.reducePow, Nat.reduceDiv, Nat.reduceMod, Nat.reduceBEq]; first | (with_reducible apply W_region_l) | with_reducible refine W_region_draw (id := 9) 1 (.op 0 true (.op 1 true (.op 2 true (.op 3 true (.op 4 true (.op 5 true (.op 6 true (.op 7 true (.op 8 true (.op 9 true (.op 10 true (.op 11 true (.op 12 true (.op 13 true (.op 14 true (.op 15 true (.done))))))))))))))))) (by kernel_rfl) ?_ | with_reducible refine W_region_draw (id := 18) 2 (.op 0 true (.op 1 true (.op 2 true (.op 4 true (.op 3 true (.op 5 false (.op 6 false (.done)))))))) (by kernel_rfl) ?_ | with_reducible refine W_region_draw (id := 19) 2 (.op 0 true (.op 1 true (.op 2 true (.op 3 true (.op 4 true (.op 5 false (.op 6 false (.done)))))))) (by kernel_rfl) ?_)
    | ((first | (with_reducible apply WL_op; intro nx hnx) | with_reducible refine Ev_out ?_ | (with_reducible apply popsD_op; intro nx hnx) | (with_reducible refine popsD_alt ?_ ?_; intro nx hnx) | (with_reducible refine pfresh_k hnm fun nm hnm => ?_; (try simp only [fmb] at hnm)) | (with_reducible refine pborn_mu hnm fun nm hnm => ?_; (try simp only [fmb] at hnm))); try (simp (maxSteps := 2000000) (disch := omega) only [evb, evd, eve, constPV, seqK, blockK, scopeK, pbound, pelems, PV.mem?, PV.one, PV.cells, peqs, peq1, pkeys, List.set, Value.cells, ↓popG_eq, ↓pop.eq_1, ↓List.getElem?_map, ↓List.getElem?_cons_zero, ↓List.getElem?_cons_succ, Value.oneCell', Nat.reduceAdd, Nat.reduceMul, Nat.reduceSub, Nat.reduceLeDiff, Nat.reduceEqDiff, ↓reduceIte, ne_eq, reduceCtorEq, forall_const, exists_and_left, exists_eq_left', eq_self, Nat.reduceLT, Int.reduceLT, Int.reduceLE, Int.reduceToNat, Int.reduceAdd, Int.reduceSub, Int.reduceNeg, hnm, Tryd.tf0, Tryd.tf1, Tryd.tf2, Tryd.tf3, Tryd.tf4, Tryd.tf5, Tryd.tf9, Tryd.tf23, Tryd.teq23, Tryd.tf25, Tryd.tf29, Tryd.tf52, Tryd.tf67, Tryd.tf69, Tryd.call10, Tryd.call16, Tryd.call21, Tryd.call36, Tryd.call38, Tryd.call40, hlh, hne2, hne, hoy, hyl2, ty, hl0, ho0, tp, hq]); repeat (refine And.intro (by omega) ?_))
    | ((with_reducible first | apply WL_nil | apply W_label | apply W_skip | apply W_exit | apply W_ret | apply popsD_done); try simp only [seqK, blockK, scopeK, ↓reduceIte, Nat.reduceEqDiff])
    | with_reducible exact popsD_stop
    | (with_reducible apply pguard_intro <;> (intro hc; (try simp only [hcb, reduceCtorEq, forall_const, ne_eq] at hc); first | (exfalso; omega) | (exfalso; exact hc trivial) | refine Ev_in ?_))
    | (with_reducible apply W_cond_k; intro _ _ ea eb; (simp only [condK, cob, opnd, constPV, Nat.reduceEqDiff, Nat.reduceLT, ↓reduceIte, hcb, reduceCtorEq, forall_const, ne_eq]); subst ea eb; first | (refine ⟨fun hc => ?_, fun hc => ?_⟩ <;> first | (exfalso; omega) | (exfalso; exact hc trivial) | skip) | skip)
    | (with_reducible apply hnx; clear hnx nx)
    | (with_reducible refine And.intro (by omega) ?_)
    | (with_reducible refine And.intro ?_ ?_)
    | (clear hnx nx; with_reducible apply hnx; clear hnx nx)
    | (clear hnx nx; clear hnx nx; with_reducible apply hnx; clear hnx nx))
            all_goals first
              | exact rfl
              | (exfalso
                 omega)
              | (intro hh
                 exfalso
                 simp at hh
                 done)
              | (refine hfin _ _ (Fin_ret2 rfl rfl (Sub_nil _) ?_); simp only [List.getD_cons_zero, List.getD_cons_succ, fr_getD_cons, fr_getD_nil, Nat.reduceEqDiff, Nat.reduceLT, ↓reduceIte]; first | trivial | exact ⟨rfl, by trivial⟩ | (simp; done) | (simp; omega))
          · rw [if_neg hyp] at hroot
            rw [decide_eq_false hyp] at hq
            rw [hroot] at hfin
            repeat' (first
    | (with_reducible apply W_seq_k; intro nx hnx)
    | (with_reducible first | apply W_block | apply W_scope)
    | (with_reducible refine W_prune 55340232221128916767 ?_; simp only [prb, Nat.reducePow, Nat.reduceDiv, Nat.reduceMod, Nat.reduceBEq]; first | (with_reducible apply W_region_l) | with_reducible refine W_region_draw (id := 9) 1 (.op 0 true (.op 1 true (.op 2 true (.op 3 true (.op 4 true (.op 5 true (.op 6 true (.op 7 true (.op 8 true (.op 9 true (.op 10 true (.op 11 true (.op 12 true (.op 13 true (.op 14 true (.op 15 true (.done))))))))))))))))) (by kernel_rfl) ?_ | with_reducible refine W_region_draw (id := 18) 2 (.op 0 true (.op 1 true (.op 2 true (.op 4 true (.op 3 true (.op 5 false (.op 6 false (.done)))))))) (by kernel_rfl) ?_ | with_reducible refine W_region_draw (id := 19) 2 (.op 0 true (.op 1 true (.op 2 true (.op 3 true (.op 4 true (.op 5 false (.op 6 false (.done)))))))) (by kernel_rfl) ?_)
    | ((first | (with_reducible apply WL_op; intro nx hnx) | with_reducible refine Ev_out ?_ | (with_reducible apply popsD_op; intro nx hnx) | (with_reducible refine popsD_alt ?_ ?_; intro nx hnx) | (with_reducible refine pfresh_k hnm fun nm hnm => ?_; (try simp only [fmb] at hnm)) | (with_reducible refine pborn_mu hnm fun nm hnm => ?_; (try simp only [fmb] at hnm))); try (simp (maxSteps := 2000000) (disch := omega) only [evb, evd, eve, constPV, seqK, blockK, scopeK, pbound, pelems, PV.mem?, PV.one, PV.cells, peqs, peq1, pkeys, List.set, Value.cells, ↓popG_eq, ↓pop.eq_1, ↓List.getElem?_map, ↓List.getElem?_cons_zero, ↓List.getElem?_cons_succ, Value.oneCell', Nat.reduceAdd, Nat.reduceMul, Nat.reduceSub, Nat.reduceLeDiff, Nat.reduceEqDiff, ↓reduceIte, ne_eq, reduceCtorEq, forall_const, exists_and_left, exists_eq_left', eq_self, Nat.reduceLT, Int.reduceLT, Int.reduceLE, Int.reduceToNat, Int.reduceAdd, Int.reduceSub, Int.reduceNeg, hnm, Tryd.tf0, Tryd.tf1, Tryd.tf2, Tryd.tf3, Tryd.tf4, Tryd.tf5, Tryd.tf9, Tryd.tf23, Tryd.teq23, Tryd.tf25, Tryd.tf29, Tryd.tf52, Tryd.tf67, Tryd.tf69, Tryd.call10, Tryd.call16, Tryd.call21, Tryd.call36, Tryd.call38, Tryd.call40, hlh, hne2, hne, hoy, hyl2, ty, hl0, ho0, tp, hq]); repeat (refine And.intro (by omega) ?_))
    | ((with_reducible first | apply WL_nil | apply W_label | apply W_skip | apply W_exit | apply W_ret | apply popsD_done); try simp only [seqK, blockK, scopeK, ↓reduceIte, Nat.reduceEqDiff])
    | with_reducible exact popsD_stop
    | (with_reducible apply pguard_intro <;> (intro hc; (try simp only [hcb, reduceCtorEq, forall_const, ne_eq] at hc); first | (exfalso; omega) | (exfalso; exact hc trivial) | refine Ev_in ?_))
    | (with_reducible apply W_cond_k; intro _ _ ea eb; (simp only [condK, cob, opnd, constPV, Nat.reduceEqDiff, Nat.reduceLT, ↓reduceIte, hcb, reduceCtorEq, forall_const, ne_eq]); subst ea eb; first | (refine ⟨fun hc => ?_, fun hc => ?_⟩ <;> first | (exfalso; omega) | (exfalso; exact hc trivial) | skip) | skip)
    | (with_reducible apply hnx; clear hnx nx)
    | (with_reducible refine And.intro (by omega) ?_)
    | (with_reducible refine And.intro ?_ ?_)
    | (clear hnx nx; with_reducible apply hnx; clear hnx nx)
    | (clear hnx nx; clear hnx nx; with_reducible apply hnx; clear hnx nx))
            all_goals first
              | exact rfl
              | (exfalso
                 omega)
              | (intro hh
                 exfalso
                 simp at hh
                 done)
              | (refine hfin _ _ (Fin_ret2 rfl rfl (Sub_nil _) ?_); simp only [List.getD_cons_zero, List.getD_cons_succ, fr_getD_cons, fr_getD_nil, Nat.reduceEqDiff, Nat.reduceLT, ↓reduceIte]; first | trivial | exact ⟨rfl, by trivial⟩ | (simp; done) | (simp; omega))
    · have hv2 : v = (0, e) := by rw [hv, verF, if_neg (by simpa using hf), hg, if_pos he]
      rw [hv2] at hfin
      rcases gI_err hg with h0 | ⟨rfl, rfl, rfl | rfl⟩
      · exact absurd h0 he
      all_goals
        repeat' (first
    | (with_reducible apply W_seq_k; intro nx hnx)
    | (with_reducible first | apply W_block | apply W_scope)
    | (with_reducible refine W_prune 55340232221128916767 ?_; simp only [prb, Nat.reducePow, Nat.reduceDiv, Nat.reduceMod, Nat.reduceBEq]; first | (with_reducible apply W_region_l) | with_reducible refine W_region_draw (id := 9) 1 (.op 0 true (.op 1 true (.op 2 true (.op 3 true (.op 4 true (.op 5 true (.op 6 true (.op 7 true (.op 8 true (.op 9 true (.op 10 true (.op 11 true (.op 12 true (.op 13 true (.op 14 true (.op 15 true (.done))))))))))))))))) (by kernel_rfl) ?_ | with_reducible refine W_region_draw (id := 18) 2 (.op 0 true (.op 1 true (.op 2 true (.op 4 true (.op 3 true (.op 5 false (.op 6 false (.done)))))))) (by kernel_rfl) ?_ | with_reducible refine W_region_draw (id := 19) 2 (.op 0 true (.op 1 true (.op 2 true (.op 3 true (.op 4 true (.op 5 false (.op 6 false (.done)))))))) (by kernel_rfl) ?_)
    | ((first | (with_reducible apply WL_op; intro nx hnx) | with_reducible refine Ev_out ?_ | (with_reducible apply popsD_op; intro nx hnx) | (with_reducible refine popsD_alt ?_ ?_; intro nx hnx) | (with_reducible refine pfresh_k hnm fun nm hnm => ?_; (try simp only [fmb] at hnm)) | (with_reducible refine pborn_mu hnm fun nm hnm => ?_; (try simp only [fmb] at hnm))); try (simp (maxSteps := 2000000) (disch := omega) only [evb, evd, eve, constPV, seqK, blockK, scopeK, pbound, pelems, PV.mem?, PV.one, PV.cells, peqs, peq1, pkeys, List.set, Value.cells, ↓popG_eq, ↓pop.eq_1, ↓List.getElem?_map, ↓List.getElem?_cons_zero, ↓List.getElem?_cons_succ, Value.oneCell', Nat.reduceAdd, Nat.reduceMul, Nat.reduceSub, Nat.reduceLeDiff, Nat.reduceEqDiff, ↓reduceIte, ne_eq, reduceCtorEq, forall_const, exists_and_left, exists_eq_left', eq_self, Nat.reduceLT, Int.reduceLT, Int.reduceLE, Int.reduceToNat, Int.reduceAdd, Int.reduceSub, Int.reduceNeg, hnm, Tryd.tf0, Tryd.tf1, Tryd.tf2, Tryd.tf3, Tryd.tf4, Tryd.tf5, Tryd.tf9, Tryd.tf23, Tryd.teq23, Tryd.tf25, Tryd.tf29, Tryd.tf52, Tryd.tf67, Tryd.tf69, Tryd.call10, Tryd.call16, Tryd.call21, Tryd.call36, Tryd.call38, Tryd.call40, hl0, ho0, f1, f2]); repeat (refine And.intro (by omega) ?_))
    | ((with_reducible first | apply WL_nil | apply W_label | apply W_skip | apply W_exit | apply W_ret | apply popsD_done); try simp only [seqK, blockK, scopeK, ↓reduceIte, Nat.reduceEqDiff])
    | with_reducible exact popsD_stop
    | (with_reducible apply pguard_intro <;> (intro hc; (try simp only [hcb, reduceCtorEq, forall_const, ne_eq] at hc); first | (exfalso; omega) | (exfalso; exact hc trivial) | refine Ev_in ?_))
    | (with_reducible apply W_cond_k; intro _ _ ea eb; (simp only [condK, cob, opnd, constPV, Nat.reduceEqDiff, Nat.reduceLT, ↓reduceIte, hcb, reduceCtorEq, forall_const, ne_eq]); subst ea eb; first | (refine ⟨fun hc => ?_, fun hc => ?_⟩ <;> first | (exfalso; omega) | (exfalso; exact hc trivial) | skip) | skip)
    | (with_reducible apply hnx; clear hnx nx)
    | (with_reducible refine And.intro (by omega) ?_)
    | (with_reducible refine And.intro ?_ ?_)
    | (with_reducible refine pcall_k (c0) ?_; rintro _ _ ⟨rfl, rfl⟩ -; refine Ev_in ?_)
    | (with_reducible refine pcall_k (c1) ?_; rintro _ _ ⟨rfl, rfl⟩ -; refine Ev_in ?_)
    | (clear hnx nx; with_reducible apply hnx; clear hnx nx)
    | (clear hnx nx; clear hnx nx; with_reducible apply hnx; clear hnx nx))
        all_goals first
          | exact rfl
          | (exfalso
             omega)
          | (intro hh
             exfalso
             simp at hh
             omega)
          | (refine hfin _ _ (Fin_ret2 rfl rfl (Sub_nil _) ?_); simp only [List.getD_cons_zero, List.getD_cons_succ, fr_getD_cons, fr_getD_nil, Nat.reduceEqDiff, Nat.reduceLT, ↓reduceIte]; first | trivial | exact ⟨rfl, by trivial⟩ | (simp; done) | (simp; omega))
  · have hv2 : v = (0, 1) := by rw [hv, verF, if_pos hf]
    rw [hv2] at hfin
    by_cases f1 : n < 0
    · repeat' (first
    | (with_reducible apply W_seq_k; intro nx hnx)
    | (with_reducible first | apply W_block | apply W_scope)
    | (with_reducible refine W_prune 55340232221128916767 ?_; simp only [prb, Nat.reducePow, Nat.reduceDiv, Nat.reduceMod, Nat.reduceBEq]; first | (with_reducible apply W_region_l) | with_reducible refine W_region_draw (id := 9) 1 (.op 0 true (.op 1 true (.op 2 true (.op 3 true (.op 4 true (.op 5 true (.op 6 true (.op 7 true (.op 8 true (.op 9 true (.op 10 true (.op 11 true (.op 12 true (.op 13 true (.op 14 true (.op 15 true (.done))))))))))))))))) (by kernel_rfl) ?_ | with_reducible refine W_region_draw (id := 18) 2 (.op 0 true (.op 1 true (.op 2 true (.op 4 true (.op 3 true (.op 5 false (.op 6 false (.done)))))))) (by kernel_rfl) ?_ | with_reducible refine W_region_draw (id := 19) 2 (.op 0 true (.op 1 true (.op 2 true (.op 3 true (.op 4 true (.op 5 false (.op 6 false (.done)))))))) (by kernel_rfl) ?_)
    | ((first | (with_reducible apply WL_op; intro nx hnx) | with_reducible refine Ev_out ?_ | (with_reducible apply popsD_op; intro nx hnx) | (with_reducible refine popsD_alt ?_ ?_; intro nx hnx) | (with_reducible refine pfresh_k hnm fun nm hnm => ?_; (try simp only [fmb] at hnm)) | (with_reducible refine pborn_mu hnm fun nm hnm => ?_; (try simp only [fmb] at hnm))); try (simp (maxSteps := 2000000) (disch := omega) only [evb, evd, eve, constPV, seqK, blockK, scopeK, pbound, pelems, PV.mem?, PV.one, PV.cells, peqs, peq1, pkeys, List.set, Value.cells, ↓popG_eq, ↓pop.eq_1, ↓List.getElem?_map, ↓List.getElem?_cons_zero, ↓List.getElem?_cons_succ, Value.oneCell', Nat.reduceAdd, Nat.reduceMul, Nat.reduceSub, Nat.reduceLeDiff, Nat.reduceEqDiff, ↓reduceIte, ne_eq, reduceCtorEq, forall_const, exists_and_left, exists_eq_left', eq_self, Nat.reduceLT, Int.reduceLT, Int.reduceLE, Int.reduceToNat, Int.reduceAdd, Int.reduceSub, Int.reduceNeg, hnm, Tryd.tf0, Tryd.tf1, Tryd.tf2, Tryd.tf3, Tryd.tf4, Tryd.tf5, Tryd.tf9, Tryd.tf23, Tryd.teq23, Tryd.tf25, Tryd.tf29, Tryd.tf52, Tryd.tf67, Tryd.tf69, Tryd.call10, Tryd.call16, Tryd.call21, Tryd.call36, Tryd.call38, Tryd.call40, hl0, ho0, f1]); repeat (refine And.intro (by omega) ?_))
    | ((with_reducible first | apply WL_nil | apply W_label | apply W_skip | apply W_exit | apply W_ret | apply popsD_done); try simp only [seqK, blockK, scopeK, ↓reduceIte, Nat.reduceEqDiff])
    | with_reducible exact popsD_stop
    | (with_reducible apply pguard_intro <;> (intro hc; (try simp only [hcb, reduceCtorEq, forall_const, ne_eq] at hc); first | (exfalso; omega) | (exfalso; exact hc trivial) | refine Ev_in ?_))
    | (with_reducible apply W_cond_k; intro _ _ ea eb; (simp only [condK, cob, opnd, constPV, Nat.reduceEqDiff, Nat.reduceLT, ↓reduceIte, hcb, reduceCtorEq, forall_const, ne_eq]); subst ea eb; first | (refine ⟨fun hc => ?_, fun hc => ?_⟩ <;> first | (exfalso; omega) | (exfalso; exact hc trivial) | skip) | skip)
    | (with_reducible apply hnx; clear hnx nx)
    | (with_reducible refine And.intro (by omega) ?_)
    | (with_reducible refine And.intro ?_ ?_)
    | (with_reducible refine pcall_k (c0) ?_; rintro _ _ ⟨rfl, rfl⟩ -; refine Ev_in ?_)
    | (clear hnx nx; with_reducible apply hnx; clear hnx nx)
    | (clear hnx nx; clear hnx nx; with_reducible apply hnx; clear hnx nx))
      all_goals first
        | exact rfl
        | (exfalso
           omega)
        | (intro hh
           exfalso
           simp at hh
           omega)
        | (refine hfin _ _ (Fin_ret2 rfl rfl (Sub_nil _) ?_); simp only [List.getD_cons_zero, List.getD_cons_succ, fr_getD_cons, fr_getD_nil, Nat.reduceEqDiff, Nat.reduceLT, ↓reduceIte]; first | trivial | exact ⟨rfl, by trivial⟩ | (simp; done) | (simp; omega))
    · have f2 : 6 < n := by omega
      repeat' (first
    | (with_reducible apply W_seq_k; intro nx hnx)
    | (with_reducible first | apply W_block | apply W_scope)
    | (with_reducible refine W_prune 55340232221128916767 ?_; simp only [prb, Nat.reducePow, Nat.reduceDiv, Nat.reduceMod, Nat.reduceBEq]; first | (with_reducible apply W_region_l) | with_reducible refine W_region_draw (id := 9) 1 (.op 0 true (.op 1 true (.op 2 true (.op 3 true (.op 4 true (.op 5 true (.op 6 true (.op 7 true (.op 8 true (.op 9 true (.op 10 true (.op 11 true (.op 12 true (.op 13 true (.op 14 true (.op 15 true (.done))))))))))))))))) (by kernel_rfl) ?_ | with_reducible refine W_region_draw (id := 18) 2 (.op 0 true (.op 1 true (.op 2 true (.op 4 true (.op 3 true (.op 5 false (.op 6 false (.done)))))))) (by kernel_rfl) ?_ | with_reducible refine W_region_draw (id := 19) 2 (.op 0 true (.op 1 true (.op 2 true (.op 3 true (.op 4 true (.op 5 false (.op 6 false (.done)))))))) (by kernel_rfl) ?_)
    | ((first | (with_reducible apply WL_op; intro nx hnx) | with_reducible refine Ev_out ?_ | (with_reducible apply popsD_op; intro nx hnx) | (with_reducible refine popsD_alt ?_ ?_; intro nx hnx) | (with_reducible refine pfresh_k hnm fun nm hnm => ?_; (try simp only [fmb] at hnm)) | (with_reducible refine pborn_mu hnm fun nm hnm => ?_; (try simp only [fmb] at hnm))); try (simp (maxSteps := 2000000) (disch := omega) only [evb, evd, eve, constPV, seqK, blockK, scopeK, pbound, pelems, PV.mem?, PV.one, PV.cells, peqs, peq1, pkeys, List.set, Value.cells, ↓popG_eq, ↓pop.eq_1, ↓List.getElem?_map, ↓List.getElem?_cons_zero, ↓List.getElem?_cons_succ, Value.oneCell', Nat.reduceAdd, Nat.reduceMul, Nat.reduceSub, Nat.reduceLeDiff, Nat.reduceEqDiff, ↓reduceIte, ne_eq, reduceCtorEq, forall_const, exists_and_left, exists_eq_left', eq_self, Nat.reduceLT, Int.reduceLT, Int.reduceLE, Int.reduceToNat, Int.reduceAdd, Int.reduceSub, Int.reduceNeg, hnm, Tryd.tf0, Tryd.tf1, Tryd.tf2, Tryd.tf3, Tryd.tf4, Tryd.tf5, Tryd.tf9, Tryd.tf23, Tryd.teq23, Tryd.tf25, Tryd.tf29, Tryd.tf52, Tryd.tf67, Tryd.tf69, Tryd.call10, Tryd.call16, Tryd.call21, Tryd.call36, Tryd.call38, Tryd.call40, hl0, ho0, f1, f2]); repeat (refine And.intro (by omega) ?_))
    | ((with_reducible first | apply WL_nil | apply W_label | apply W_skip | apply W_exit | apply W_ret | apply popsD_done); try simp only [seqK, blockK, scopeK, ↓reduceIte, Nat.reduceEqDiff])
    | with_reducible exact popsD_stop
    | (with_reducible apply pguard_intro <;> (intro hc; (try simp only [hcb, reduceCtorEq, forall_const, ne_eq] at hc); first | (exfalso; omega) | (exfalso; exact hc trivial) | refine Ev_in ?_))
    | (with_reducible apply W_cond_k; intro _ _ ea eb; (simp only [condK, cob, opnd, constPV, Nat.reduceEqDiff, Nat.reduceLT, ↓reduceIte, hcb, reduceCtorEq, forall_const, ne_eq]); subst ea eb; first | (refine ⟨fun hc => ?_, fun hc => ?_⟩ <;> first | (exfalso; omega) | (exfalso; exact hc trivial) | skip) | skip)
    | (with_reducible apply hnx; clear hnx nx)
    | (with_reducible refine And.intro (by omega) ?_)
    | (with_reducible refine And.intro ?_ ?_)
    | (with_reducible refine pcall_k (c0) ?_; rintro _ _ ⟨rfl, rfl⟩ -; refine Ev_in ?_)
    | (clear hnx nx; with_reducible apply hnx; clear hnx nx)
    | (clear hnx nx; clear hnx nx; with_reducible apply hnx; clear hnx nx))
      all_goals first
        | exact rfl
        | (exfalso
           omega)
        | (intro hh
           exfalso
           simp at hh
           omega)
        | (refine hfin _ _ (Fin_ret2 rfl rfl (Sub_nil _) ?_); simp only [List.getD_cons_zero, List.getD_cons_succ, fr_getD_cons, fr_getD_nil, Nat.reduceEqDiff, Nat.reduceLT, ↓reduceIte]; first | trivial | exact ⟨rfl, by trivial⟩ | (simp; done) | (simp; omega))
end Go.PM

namespace Go.PM
open Go.Proofs
/-- A number is computed ahead of what follows. -/
def frc {α : Type} (x : Nat) (f : Nat → α) : α := match x with | 0 => f 0 | n + 1 => f (n + 1)
theorem frc_eq {α : Type} (x : Nat) (f : Nat → α) : frc x f = f x := by cases x <;> rfl
def frcL {α : Type} : List Nat → (List Nat → α) → α
  | [], f => f []
  | x :: xs, f => frc x fun x => frcL xs fun xs => f (x :: xs)
theorem frcL_eq {α : Type} : ∀ (l : List Nat) (f : List Nat → α), frcL l f = f l
  | [], _ => rfl
  | x :: xs, f => by rw [frcL, frc_eq, frcL_eq xs]
def rotN (x n : Nat) : Nat := ((x <<< (32 - n)) % 4294967296) ||| (x >>> n)
theorem R_nat (x : UInt32) (n : Nat) (h1 : 1 ≤ n) (h2 : n ≤ 31) : (R x n).toNat = rotN x.toNat n := by
  have a1 : (UInt32.ofNat (32 - n)).toNat = 32 - n := UInt32.toNat_ofNat_of_lt' (show 32 - n < 4294967296 by omega)
  have a2 : (UInt32.ofNat n).toNat = n := UInt32.toNat_ofNat_of_lt' (show n < 4294967296 by omega)
  rw [R, UInt32.toNat_or, UInt32.toNat_shiftLeft, UInt32.toNat_shiftRight, a1, a2, Nat.mod_eq_of_lt (show 32 - n < 32 by omega), Nat.mod_eq_of_lt (show n < 32 by omega)]
  rfl
def mixN (x i j k : Nat) : Nat := rotN x i ^^^ rotN x j ^^^ rotN x k
theorem Mx_nat (x : UInt32) (i j k : Nat) (hi : 1 ≤ i ∧ i ≤ 31) (hj : 1 ≤ j ∧ j ≤ 31) (hk : 1 ≤ k ∧ k ≤ 31) : (Mx x i j k).toNat = mixN x.toNat i j k := by
  rw [Mx, UInt32.toNat_xor, UInt32.toNat_xor, R_nat x i hi.1 hi.2, R_nat x j hj.1 hj.2, R_nat x k hk.1 hk.2, mixN]
def s0N (p : Nat) : Nat := rotN p 7 ^^^ rotN p 18 ^^^ (p >>> 3)
def s1N (p : Nat) : Nat := rotN p 17 ^^^ rotN p 19 ^^^ (p >>> 10)
theorem S0_nat (x : UInt32) : (S0 x).toNat = s0N x.toNat := by
  rw [S0, UInt32.toNat_xor, UInt32.toNat_xor, R_nat x 7 (by omega) (by omega), R_nat x 18 (by omega) (by omega), UInt32.toNat_shiftRight, s0N]
  rfl
theorem S1_nat (x : UInt32) : (S1 x).toNat = s1N x.toNat := by
  rw [S1, UInt32.toNat_xor, UInt32.toNat_xor, R_nat x 17 (by omega) (by omega), R_nat x 19 (by omega) (by omega), UInt32.toNat_shiftRight, s1N]
  rfl
def chN (x y z : Nat) : Nat := (x &&& y) ^^^ ((x ^^^ 4294967295) &&& z)
def maN (x y z : Nat) : Nat := (x &&& y) ^^^ (x &&& z) ^^^ (y &&& z)
def xN (e0 e1 e2 e3 k w : Nat) : Nat := (e3 + mixN e0 6 11 25 + chN e0 e1 e2 + k + w) % 4294967296
def yN (v0 v1 v2 : Nat) : Nat := mixN v0 2 13 22 + maN v0 v1 v2
theorem xW_nat (e0 e1 e2 e3 k w : UInt32) : (xW e0 e1 e2 e3 k w).toNat = xN e0.toNat e1.toNat e2.toNat e3.toNat k.toNat w.toNat := by
  have h1 := Mx_nat e0 6 11 25 (by omega) (by omega) (by omega)
  have h2 : (chW e0 e1 e2).toNat = chN e0.toNat e1.toNat e2.toNat := by
    rw [chW, UInt32.toNat_xor, UInt32.toNat_and, UInt32.toNat_and, UInt32.toNat_xor, chN]
    rfl
  simp only [xW, UInt32.toNat_add, h1, h2, xN]
  omega
theorem yW_nat (v0 v1 v2 : UInt32) : (yW v0 v1 v2).toNat = yN v0.toNat v1.toNat v2.toNat % 4294967296 := by
  have h1 := Mx_nat v0 2 13 22 (by omega) (by omega) (by omega)
  have h2 : (maW v0 v1 v2).toNat = maN v0.toNat v1.toNat v2.toNat := by
    rw [maW, UInt32.toNat_xor, UInt32.toNat_xor, UInt32.toNat_and, UInt32.toNat_and, UInt32.toNat_and, maN]
  simp only [yW, UInt32.toNat_add, h1, h2, yN]
def loopN : List Nat → List Nat → Nat → Nat → Nat → Nat → Nat → Nat → Nat → Nat → List Nat
  | k :: ks, w :: ws, v0, v1, v2, v3, e0, e1, e2, e3 =>
    frc (xN e0 e1 e2 e3 k w) fun x => frc ((x + yN v0 v1 v2) % 4294967296) fun a => frc ((v3 + x) % 4294967296) fun e => loopN ks ws a v0 v1 v2 e e0 e1 e2
  | [], _, v0, v1, v2, v3, e0, e1, e2, e3 => [v0, v1, v2, v3, e0, e1, e2, e3]
  | _ :: _, [], v0, v1, v2, v3, e0, e1, e2, e3 => [v0, v1, v2, v3, e0, e1, e2, e3]
@[reducible] def n32 (l : List UInt32) : List Nat := l.map UInt32.toNat
theorem loop_nat : ∀ (K W : List UInt32) (v0 v1 v2 v3 e0 e1 e2 e3 : UInt32), loopN (n32 K) (n32 W) v0.toNat v1.toNat v2.toNat v3.toNat e0.toNat e1.toNat e2.toNat e3.toNat =
    n32 ((K.zip W).foldl (fun s x => rnd x.1 x.2 s) [v0, v1, v2, v3, e0, e1, e2, e3])
  | [], _, v0, v1, v2, v3, e0, e1, e2, e3 => by simp [loopN, n32]
  | _ :: _, [], v0, v1, v2, v3, e0, e1, e2, e3 => by simp [loopN, n32]
  | k :: K, w :: W, v0, v1, v2, v3, e0, e1, e2, e3 => by
    have ih := loop_nat K W (xW e0 e1 e2 e3 k w + yW v0 v1 v2) v0 v1 v2 (v3 + xW e0 e1 e2 e3 k w) e0 e1 e2
    rw [List.zip_cons_cons, List.foldl_cons, rnd, ← ih]
    simp only [n32, List.map_cons, loopN, frc_eq, UInt32.toNat_add, xW_nat, yW_nat]
    have e1' : ∀ a b : Nat, (a + b % 4294967296) % 4294967296 = (a + b) % 4294967296 := fun a b => by omega
    rw [e1']
theorem rds_fold (w s : List UInt32) (hw : w.length = 64) : ∀ t, t ≤ 64 → rds w s t = ((KS.zip w).take t).foldl (fun s x => rnd x.1 x.2 s) s
  | 0, _ => by simp [rds]
  | t + 1, ht => by
    have hk : KS.length = 64 := rfl
    have hz : (KS.zip w)[t]? = some (KS.getD t 0, w.getD t 0) := by
      rw [List.getElem?_eq_getElem (by rw [List.length_zip, hk, hw]; simp; omega), List.getElem_zip, List.getD_eq_getElem?_getD, List.getD_eq_getElem?_getD, List.getElem?_eq_getElem (by omega), List.getElem?_eq_getElem (by omega)]
      rfl
    rw [rds, rds_fold w s hw t (by omega), List.take_add_one, hz, List.foldl_append]
    rfl
def schN : Nat → List Nat → List Nat
  | 0, _ => []
  | n + 1, w0 :: r => frc ((w0 + s0N (r.getD 0 0) + r.getD 8 0 + s1N (r.getD 13 0)) % 4294967296) fun x => w0 :: schN n (r ++ [x])
  | _ + 1, [] => []
def win (f : Nat → Nat) (t : Nat) : List Nat := [f t, f (t + 1), f (t + 2), f (t + 3), f (t + 4), f (t + 5), f (t + 6), f (t + 7), f (t + 8), f (t + 9), f (t + 10), f (t + 11), f (t + 12), f (t + 13), f (t + 14), f (t + 15)]
theorem sch_all {f : Nat → Nat} (hf : ∀ t, f (t + 16) = (f t + s0N (f (t + 1)) + f (t + 9) + s1N (f (t + 14))) % 4294967296) : ∀ n t, schN n (win f t) = (List.range n).map fun i => f (t + i)
  | 0, t => rfl
  | n + 1, t => by
    have ih := sch_all hf n (t + 1)
    have hw : [f (t + 1), f (t + 2), f (t + 3), f (t + 4), f (t + 5), f (t + 6), f (t + 7), f (t + 8), f (t + 9), f (t + 10), f (t + 11), f (t + 12), f (t + 13), f (t + 14), f (t + 15)] ++ [f (t + 16)] = win f (t + 1) := by
      simp only [win, List.cons_append, List.nil_append, Nat.add_assoc, Nat.reduceAdd]
    rw [List.range_succ_eq_map, List.map_cons, List.map_map]
    rw [win, schN, frc_eq]
    simp only [List.getD_cons_zero, List.getD_cons_succ]
    rw [← hf t, hw, ih]
    congr 1
    refine List.map_congr_left fun i _ => ?_
    simp only [Function.comp_apply]
    congr 1
    omega
/-- A word of a block. -/
def Wd (b : List UInt8) (i : Nat) : UInt32 := (WLs b (i + 1)).getD i 0
theorem WLs_Wd (b : List UInt8) : ∀ n i, i < n → (WLs b n).getD i 0 = Wd b i
  | 0, i, h => absurd h (by omega)
  | n + 1, i, h => by
    by_cases hi : i = n
    · rw [hi]
      rfl
    · rw [WLs_keep b n i (by omega), WLs_Wd b n i (by omega)]
theorem Wd_lt (b : List UInt8) (i : Nat) (h : i < 16) : Wd b i = wB b i := by rw [Wd, WLs_new, nxt, if_pos h]
theorem Wd_ge (b : List UInt8) (t : Nat) : (Wd b (t + 16)).toNat = ((Wd b t).toNat + s0N (Wd b (t + 1)).toNat + (Wd b (t + 9)).toNat + s1N (Wd b (t + 14)).toNat) % 4294967296 := by
  rw [Wd, WLs_new, nxt, if_neg (by omega), show t + 16 - 16 = t by omega, show t + 16 - 15 = t + 1 by omega, show t + 16 - 7 = t + 9 by omega, show t + 16 - 2 = t + 14 by omega, WLs_Wd _ _ _ (by omega), WLs_Wd _ _ _ (by omega), WLs_Wd _ _ _ (by omega), WLs_Wd _ _ _ (by omega)]
  simp only [UInt32.toNat_add, S0_nat, S1_nat]
  omega
theorem WLs_map (b : List UInt8) (n : Nat) : WLs b n = (List.range n).map (Wd b) := by
  refine List.ext_getElem? fun i => ?_
  by_cases h : i < n
  · have h1 := WLs_Wd b n i h
    rw [List.getD_eq_getElem?_getD, List.getElem?_eq_getElem (by rw [WLs_len]; exact h)] at h1
    rw [List.getElem?_eq_getElem (by rw [WLs_len]; exact h), List.getElem?_map, List.getElem?_range h]
    exact congrArg some h1
  · rw [List.getElem?_eq_none (by rw [WLs_len]; omega), List.getElem?_eq_none (by simp; omega)]
def accN (m : Nat) (x : UInt8) : Nat := ((m <<< 8) % 4294967296) ||| x.toNat
theorem accB_nat (m : UInt32) (x : UInt8) : (accB m x).toNat = accN m.toNat x := by
  rw [accB, UInt32.toNat_or, UInt32.toNat_shiftLeft, accN]
  rfl
theorem fold_acc : ∀ (l : List UInt8) (m : UInt32), (l.foldl accB m).toNat = l.foldl accN m.toNat
  | [], _ => rfl
  | x :: l, m => by rw [List.foldl_cons, List.foldl_cons, fold_acc l, accB_nat]
def wbN (b : List UInt8) (i : Nat) : Nat := ((b.drop (4 * i)).take 4).foldl accN 0
theorem wB_nat (b : List UInt8) (i : Nat) : (wB b i).toNat = wbN b i := fold_acc _ 0
/-- The words that a block begins with. -/
def wsN (b : List UInt8) : List Nat := [wbN b 0, wbN b 1, wbN b 2, wbN b 3, wbN b 4, wbN b 5, wbN b 6, wbN b 7, wbN b 8, wbN b 9, wbN b 10, wbN b 11, wbN b 12, wbN b 13, wbN b 14, wbN b 15]
theorem wsN_win (b : List UInt8) : wsN b = win (fun i => (Wd b i).toNat) 0 := by
  have h : ∀ i, i < 16 → (Wd b i).toNat = wbN b i := fun i hi => by rw [Wd_lt b i hi, wB_nat]
  simp only [win, wsN, Nat.zero_add]
  rw [h 0 (by omega), h 1 (by omega), h 2 (by omega), h 3 (by omega), h 4 (by omega), h 5 (by omega), h 6 (by omega), h 7 (by omega), h 8 (by omega), h 9 (by omega), h 10 (by omega), h 11 (by omega), h 12 (by omega), h 13 (by omega), h 14 (by omega), h 15 (by omega)]
theorem sch_nat (b : List UInt8) : schN 64 (wsN b) = n32 (WLs b 64) := by
  rw [wsN_win, sch_all (f := fun i => (Wd b i).toNat) (Wd_ge b) 64 0, WLs_map, n32, List.map_map]
  refine List.map_congr_left fun i _ => ?_
  simp only [Function.comp_apply, Nat.zero_add]
def KSN : List Nat := [1116352408, 1899447441, 3049323471, 3921009573, 961987163, 1508970993, 2453635748, 2870763221, 3624381080, 310598401, 607225278, 1426881987, 1925078388, 2162078206, 2614888103, 3248222580, 3835390401, 4022224774, 264347078, 604807628, 770255983, 1249150122, 1555081692, 1996064986, 2554220882, 2821834349, 2952996808, 3210313671, 3336571891, 3584528711, 113926993, 338241895, 666307205, 773529912, 1294757372, 1396182291, 1695183700, 1986661051, 2177026350, 2456956037, 2730485921, 2820302411, 3259730800, 3345764771, 3516065817, 3600352804, 4094571909, 275423344, 430227734, 506948616, 659060556, 883997877, 958139571, 1322822218, 1537002063, 1747873779, 1955562222, 2024104815, 2227730452, 2361852424, 2428436474, 2756734187, 3204031479, 3329325298]
theorem KSN_eq : KSN = n32 KS := by decide +kernel
def compN (s : List Nat) (b : List UInt8) : List Nat :=
  match s with
  | [v0, v1, v2, v3, e0, e1, e2, e3] => List.zipWith (fun x y => (x + y) % 4294967296) s (loopN KSN (schN 64 (wsN b)) v0 v1 v2 v3 e0 e1 e2 e3)
  | _ => []
theorem zip_nat : ∀ (l m : List UInt32), n32 (List.zipWith (· + ·) l m) = List.zipWith (fun x y => (x + y) % 4294967296) (n32 l) (n32 m)
  | [], _ => by simp
  | _ :: _, [] => by simp
  | a :: l, b :: m => by
    have ih := zip_nat l m
    simp only [n32, List.zipWith_cons_cons, List.map_cons, UInt32.toNat_add] at ih ⊢
    rw [ih]
theorem comp_nat (s : List UInt32) (hs : s.length = 8) (b : List UInt8) : n32 (comp s b) = compN (n32 s) b := by
  obtain ⟨v0, v1, v2, v3, e0, e1, e2, e3, rfl⟩ := list8 hs
  have h1 := rds_fold (WLs b 64) [v0, v1, v2, v3, e0, e1, e2, e3] (WLs_len b 64) 64 (Nat.le_refl _)
  rw [List.take_of_length_le (by rw [List.length_zip, WLs_len]; exact Nat.min_le_right _ _)] at h1
  have h2 := loop_nat KS (WLs b 64) v0 v1 v2 v3 e0 e1 e2 e3
  rw [← h1, ← KSN_eq, ← sch_nat] at h2
  rw [comp, zip_nat, ← h2]
  rfl
def blkN : Nat → List Nat → List UInt8 → List Nat
  | 0, s, _ => s
  | k + 1, s, b => frcL (compN s (b.take 64)) fun s' => blkN k s' (b.drop 64)
theorem blk_fwd (s : List UInt32) (b : List UInt8) : ∀ k, blk s b (k + 1) = blk (comp s (b.take 64)) (b.drop 64) k
  | 0 => by simp [blk]
  | k + 1 => by
    rw [blk, blk_fwd s b k, blk]
    congr 2
    rw [List.drop_drop]
    congr 1
    omega
theorem blk_nat : ∀ (k : Nat) (s : List UInt32) (b : List UInt8), s.length = 8 → n32 (blk s b k) = blkN k (n32 s) b
  | 0, _, _, _ => rfl
  | k + 1, s, b, hs => by rw [blk_fwd, blk_nat k _ _ (comp_len s _ hs), blkN, frcL_eq, comp_nat s hs]
def outN (s : List Nat) : List UInt8 := s.flatMap fun w => [UInt8.ofNat (w / 16777216 % 256), UInt8.ofNat (w / 65536 % 256), UInt8.ofNat (w / 256 % 256), UInt8.ofNat (w / 1 % 256)]
theorem out_nat (s : List UInt32) (hs : s.length = 8) : outB s = outN (n32 s) := by
  obtain ⟨v0, v1, v2, v3, e0, e1, e2, e3, rfl⟩ := list8 hs
  rfl
def H0N : List Nat := [1779033703, 3144134277, 1013904242, 2773480762, 1359893119, 2600822924, 528734635, 1541459225]
theorem H0N_eq : H0N = n32 H0 := by decide +kernel
def shaN (b : List UInt8) : List UInt8 := outN (blkN ((b.length + (padT b.length).length) / 64) H0N (b ++ padT b.length))
theorem sha_nat (b : List UInt8) : sha b = shaN b := by
  rw [sha, out_nat _ (blk_len _ _ rfl _), blk_nat _ _ _ rfl, ← H0N_eq, shaN]
/-- The hash of a text whose first block is known. -/
def shaP (st : List Nat) (b : List UInt8) : List UInt8 := outN (blkN ((b.length + (padT (64 + b.length)).length) / 64) st (b ++ padT (64 + b.length)))
theorem sha_pre (p b : List UInt8) (hp : p.length = 64) : sha (p ++ b) = shaP (compN H0N p) b := by
  have hl : (p ++ b).length = 64 + b.length := by rw [List.length_append, hp]
  rw [sha_nat, shaN, shaP, hl, show (64 + b.length + (padT (64 + b.length)).length) / 64 = (b.length + (padT (64 + b.length)).length) / 64 + 1 by omega, blkN, frcL_eq, List.append_assoc, List.take_left' hp, List.drop_left' hp]
end Go.PM

namespace Go.PM
open Go.Proofs
theorem catF_get {vals : Nat → List UInt8} (h : ∀ c, (vals c).length = 16) : ∀ (n k : Nat) (t : List UInt8), k < n → restV (catF vals n ++ t) k = vals k
  | 0, k, t, hk => absurd hk (by omega)
  | n + 1, k, t, hk => by
    rw [catF_succ, List.append_assoc]
    by_cases h1 : k < n
    · exact catF_get h n k _ h1
    · obtain rfl : k = n := by omega
      rw [restV, List.drop_left' (catF_len h k), List.take_left' (h k)]
theorem catF_congr {f g : Nat → List UInt8} : ∀ n, (∀ c < n, f c = g c) → catF f n = catF g n
  | 0, _ => rfl
  | n + 1, h => by rw [catF_succ, catF_succ, catF_congr n fun c hc => h c (by omega), h n (by omega)]
theorem leafF_congr {f g : Nat → List UInt8} (h : ∀ c < 68, f c = g c) : leafF f = leafF g := by
  rw [leafF, leafF, catF_congr 68 h]
/-- What follows the index in a signature. -/
def sigR (seed : List UInt8) (h i : Nat) (m : List UInt8) : List UInt8 := catF (sigV seed i (digF (digestF (nodeV seed h 0) i m))) 68 ++ catF (patV seed i) h
theorem sigT_eq (seed : List UInt8) (h i : Nat) (m : List UInt8) : sigT seed h i m = intB i ++ sigR seed h i m := by
  rw [sigT, sigR, List.append_assoc]
theorem sigR_len (seed : List UInt8) (h i : Nat) (m : List UInt8) : (sigR seed h i m).length = (68 + h) * 16 := by
  rw [sigR, List.length_append, catF_len (sigV_len _ _ _), catF_len (patV_len _ _)]
  omega
theorem restV_app {a b : List UInt8} {n k : Nat} (ha : a.length = 16 * n) : restV (a ++ b) (n + k) = restV b k := by
  rw [restV, restV, show 16 * (n + k) = 16 * n + 16 * k by omega, ← List.drop_drop, List.drop_left' ha]
theorem sigR_chain (seed : List UInt8) (h i : Nat) (m : List UInt8) (c : Nat) (hc : c < 68) : restV (sigR seed h i m) c = sigV seed i (digF (digestF (nodeV seed h 0) i m)) c :=
  catF_get (sigV_len _ _ _) 68 c _ hc
theorem sigR_path (seed : List UInt8) (h i : Nat) (m : List UInt8) (l : Nat) (hl : l < h) : restV (sigR seed h i m) (68 + l) = patV seed i l := by
  rw [sigR, restV_app (catF_len (sigV_len _ _ _) 68)]
  have := catF_get (patV_len seed i) h l [] hl
  rwa [List.append_nil] at this
theorem way_node (seed : List UInt8) (h i : Nat) (m : List UInt8) : ∀ l, l ≤ h → wayF (sigR seed h i m) i (nodeV seed 0 i) l = nodeV seed l (i / 2 ^ l)
  | 0, _ => by rw [wayF, Nat.pow_zero, Nat.div_one]
  | l + 1, hl => by
    rw [wayF, way_node seed h i m l (by omega), sigR_path seed h i m l (by omega), patV, nodeV, Nat.pow_succ, ← Nat.div_div_eq_div_mul]
    generalize i / 2 ^ l = j
    unfold sib
    split
    · rename_i h1
      rw [show 2 * (j / 2) = j - 1 by omega, show j - 1 + 1 = j by omega]
    · rename_i h1
      rw [show 2 * (j / 2) = j by omega]
theorem top_of (seed : List UInt8) (h i : Nat) (m : List UInt8) (c : Nat) (hc : c < 68) :
    vfV i (digF (digestF (nodeV seed h 0) i m)) (sigR seed h i m) c = topF seed i c := by
  rw [vfV, sigR_chain seed h i m c hc, sigV, topF]
  have hq := digF_lt (digestF (nodeV seed h 0) i m) c
  generalize (digF (digestF (nodeV seed h 0) i m)).getD c 0 = x at *
  have e := advF_adv (i : Int) c x (3 - x) 0 (startF seed i c)
  rw [show ((0 : Int) + x) = x by omega] at e
  rw [show ((x : Int) - 0).toNat = x by omega, show (3 - (x : Int)).toNat = 3 - x by omega, e, show x + (3 - x) = 3 by omega]
  rfl
theorem made_root (seed : List UInt8) (h i : Nat) (m : List UInt8) (hi : i < 2 ^ h) : rootF (nodeV seed h 0) h i m (sigR seed h i m) = nodeV seed h 0 := by
  rw [rootF, leafF_congr (fun c hc => top_of seed h i m c hc), show leafF (topF seed i) = nodeV seed 0 i from rfl, way_node seed h i m h (Nat.le_refl _), Nat.div_eq_of_lt hi]
theorem inR_pow {h i : Nat} (hh : h ≤ 6) (hi : i < 2 ^ h) : inR (i : Int) := by
  have := pow_le64 h hh
  exact ⟨by omega, by omega⟩
/-- What Verify answers to a signature with an index of the tree. -/
theorem verF_app (p : List UInt8) {h i : Nat} (m r : List UInt8) (hh : h ≤ 6) (hi : i < 2 ^ h) :
    verF p h m (intB i ++ r) = if r.length ≠ (68 + h) * 16 then (0, 2) else if rootF p h i m r = p then ((i : Int), 0) else (0, 10) := by
  have hlt : (i : Int) < 2 ^ h := by exact_mod_cast hi
  rw [verF, if_neg (by omega), gI_intB (inR_pow hh hi), if_neg (by simp)]
  simp only [Int.toNat_natCast, List.drop_left]
  by_cases hr : r.length = (68 + h) * 16
  · rw [if_neg (by simp only [hr]; omega), if_neg (show ¬ r.length ≠ (68 + h) * 16 from fun h => h hr)]
  · rw [if_pos (.inr (.inr hr)), if_pos hr]
theorem made_ok (seed : List UInt8) {h i : Nat} (m : List UInt8) (hh : h ≤ 6) (hi : i < 2 ^ h) : verF (nodeV seed h 0) h m (sigT seed h i m) = ((i : Int), 0) := by
  rw [sigT_eq, verF_app _ _ _ hh hi, if_neg (by simpa using sigR_len seed h i m), if_pos (made_root seed h i m hi)]
end Go.PM

namespace Go.PM
open Go.Proofs
/-- The seed of the examples. -/
def s5 : List UInt8 := List.replicate 32 5
def SI : List Nat := [4259976902, 956406494, 3210043920, 1952588099, 736576898, 1860271899, 3849510473, 2461207492]
def SO : List Nat := [2720719968, 2704661654, 2843490174, 1638021793, 2098679701, 2136642029, 2673818627, 2726556759]
set_option maxRecDepth 1000000 in
theorem SI_eq : compN H0N (macP (k64 s5) 54) = SI := by decide +kernel
set_option maxRecDepth 1000000 in
theorem SO_eq : compN H0N (macP (k64 s5) 92) = SO := by decide +kernel
theorem mac5 (t : List UInt8) : mac s5 t = shaP SO (shaP SI t) := by
  rw [mac, sha_pre _ _ (macP_len _ _ (k64_len _)), sha_pre _ _ (macP_len _ _ (k64_len _)), SI_eq, SO_eq]
def startX (i c : Int) : List UInt8 := (shaP SO (shaP SI (99 :: 104 :: 97 :: 105 :: 110 :: encI [i, c]))).take 16
theorem startX_eq (i c : Int) : startF s5 i c = startX i c := by rw [startF, mac5, startX]
def ofX (tag : Int) (parts : List (List UInt8)) : List UInt8 := (shaN (ofIn tag parts)).take 16
theorem ofX_eq (tag : Int) (parts : List (List UInt8)) : ofH tag parts = ofX tag parts := by rw [ofH, sha_nat, ofX]
def stepX (i c t : Int) (v : List UInt8) : List UInt8 := ofX 8 [encI [i, c, t], v]
theorem stepX_eq (i c t : Int) (v : List UInt8) : stepC i c t v = stepX i c t v := by rw [stepC, ofX_eq, stepX]
/-- A digest out of a number. -/
def d16 (n : Nat) : List UInt8 := (List.range 16).map fun i => UInt8.ofNat (n / 256 ^ (15 - i) % 256)
def topX (i c : Int) : List UInt8 := stepX i c 2 (stepX i c 1 (stepX i c 0 (startX i c)))
theorem topX_eq (i : Int) (c : Nat) : topF s5 i c = topX i c := by
  rw [topF, startX_eq, show (3 - 0 : Int).toNat = 3 from rfl, advF, advF, advF, advF, stepX_eq, stepX_eq, stepX_eq]
  rfl
def advX (i c : Int) : Int → Nat → List UInt8 → List UInt8
  | _, 0, v => v
  | t, n + 1, v => advX i c (t + 1) n (stepX i c t v)
theorem advX_eq (i c : Int) : ∀ (n : Nat) (t : Int) (v : List UInt8), advF i c t n v = advX i c t n v
  | 0, _, _ => rfl
  | n + 1, t, v => by rw [advF, advX, stepX_eq, advX_eq i c n]
/-- The values of a chain. -/
abbrev Row := Nat × Nat × Nat × Nat
def rowOk (c : Nat) (r : Row) : Bool :=
  startX 1 c == d16 r.1 && stepX 1 c 0 (d16 r.1) == d16 r.2.1 && stepX 1 c 1 (d16 r.2.1) == d16 r.2.2.1 && stepX 1 c 2 (d16 r.2.2.1) == d16 r.2.2.2
def pick (r : Row) : Nat → Nat
  | 0 => r.1
  | 1 => r.2.1
  | 2 => r.2.2.1
  | _ => r.2.2.2
theorem adv_pick {c : Nat} {r : Row} (h : rowOk c r = true) (q : Nat) (hq : q < 4) : advF 1 c 0 ((q : Int) - 0).toNat (startF s5 1 c) = d16 (pick r q) := by
  simp only [rowOk, Bool.and_eq_true, beq_iff_eq] at h
  obtain ⟨⟨⟨h0, h1⟩, h2⟩, h3⟩ := h
  rw [startX_eq, h0]
  have : q = 0 ∨ q = 1 ∨ q = 2 ∨ q = 3 := by omega
  rcases this with rfl | rfl | rfl | rfl
  · rfl
  · show advF 1 c 0 1 (d16 r.1) = _
    rw [advF, advF, stepX_eq, h1]
    rfl
  · show advF 1 c 0 2 (d16 r.1) = _
    rw [advF, advF, advF, stepX_eq 1 c 0, h1, stepX_eq]
    exact h2
  · show advF 1 c 0 3 (d16 r.1) = _
    rw [advF, advF, advF, advF, stepX_eq 1 c 0, h1, stepX_eq 1 c (0 + 1), show stepX 1 c (0 + 1) (d16 r.2.1) = d16 r.2.2.1 from h2, stepX_eq]
    exact h3
end Go.PM

namespace Go.PM
open Go.Proofs
theorem all68 {p : Nat → Bool} (h0 : (List.range' 0 17).all p = true) (h1 : (List.range' 17 17).all p = true) (h2 : (List.range' 34 17).all p = true) (h3 : (List.range' 51 17).all p = true) : ∀ c, c < 68 → p c = true := by
  intro c hc
  rw [List.all_eq_true] at h0 h1 h2 h3
  by_cases k0 : c < 17
  · exact h0 c (List.mem_range'_1.2 ⟨by omega, by omega⟩)
  · by_cases k1 : c < 34
    · exact h1 c (List.mem_range'_1.2 ⟨by omega, by omega⟩)
    · by_cases k2 : c < 51
      · exact h2 c (List.mem_range'_1.2 ⟨by omega, by omega⟩)
      · exact h3 c (List.mem_range'_1.2 ⟨by omega, by omega⟩)
def L0 : List Nat := [
  100596662528974800247235233488518326796, 55502307568824098908125106719936440511, 291591335153780158620871780000076604742, 232773132185306018454628090044291886329,
  14149243393806051225614150371765639698, 65611409827996681895396627126360843596, 139953164487277323117854098713324452575, 54506541364712739425016421784350349562,
  295175855191722488339969481763935915777, 225320208821906087632852941637344897327, 11773438364762696074375365781415794882, 111829227087907851098190070961547146241,
  216460500856796212414508909313006759065, 208629383310463031051535641405184372954, 272600455355399818855142033117972452582, 158656989897776500994665923326027590871,
  246339822083598421257844472032926586540, 89516723669604265644078106906043277046, 132310544294203580593284578580915153387, 128922724834664172267922331741053939885,
  3494204562799734266913265773976752500, 39107002839905657625060952516313320267, 325441190357778531178104387030330065790, 35373702844956607591698318077735789922,
  315879644317092221886421951093761126332, 226234713584247862228406788528414560657, 196470491697688519291251326515985099538, 4623718037020457876140255018534205240,
  162362047473284060290124729202662621957, 136156198460820223258643847035156775243, 72068306830514435490579433529298087047, 9287065636119322759724797697529441691,
  32392066858488440181437642725853466903, 103376753043361333484092271120730351596, 46006510697707234397677052049673711669, 161548131372160006686821968831696060284,
  34607663560784639616403448437671225863, 117168399499645389521323409051002704762, 122588353720094909100181459897619227310, 36984246465795629870363214604313174325,
  309909214250568328921989606189795078783, 298660170571614906748488801562277760092, 293834758520686798909502777930269106113, 61820848215063924822129233458517870869,
  181023204677659580825020479437931845110, 298892831565905842438949088148768075392, 311732304298643303389075451902030878009, 188437479054517162102578331385634673268,
  134076536099136923819236878910640371620, 146451557241847491068999064718374076059, 155581685794677963760250252654204099258, 130899385949984624354984116069787385877,
  133011273877118673692323521525666946547, 231683449663209678120495109883987648321, 186319950377591315086277648965218552883, 143599306404676242384117871721503527266,
  93805205353161506858070904576457997159, 231059720846608889678053365231142912929, 224052484942838911644245635575214159851, 171526850689211719838061162032449667166,
  311295893387083285486955950054450680610, 88458352059966377479091481322954243983, 274813203430511084595966397572074575909, 92118877230223006862621325812557767065,
  137606830363385153063018337907167846601, 27301778163834182501959025794544252232, 6579932858306897051861572105716881604, 104276163394805664864113694451629897329]
def top0 (c : Nat) : Bool := topX 0 c == d16 (L0.getD c 0)
set_option maxRecDepth 1000000 in
theorem top0_0 : (List.range' 0 17).all top0 = true := by decide +kernel
set_option maxRecDepth 1000000 in
theorem top0_1 : (List.range' 17 17).all top0 = true := by decide +kernel
set_option maxRecDepth 1000000 in
theorem top0_2 : (List.range' 34 17).all top0 = true := by decide +kernel
set_option maxRecDepth 1000000 in
theorem top0_3 : (List.range' 51 17).all top0 = true := by decide +kernel
theorem top0_eq (c : Nat) (hc : c < 68) : topF s5 ((0 : Nat) : Int) c = d16 (L0.getD c 0) := by
  have h := all68 top0_0 top0_1 top0_2 top0_3 c hc
  rw [top0, beq_iff_eq] at h
  rw [topX_eq]
  exact h
set_option maxRecDepth 1000000 in
theorem key0 : ofX 9 [catF (fun c => d16 (L0.getD c 0)) 68] = d16 40387593993227445959019833480489709885 := by decide +kernel
set_option maxRecDepth 1000000 in
theorem leaf0x : ofX 1 [d16 40387593993227445959019833480489709885] = d16 184018777003680449547951074139377501971 := by decide +kernel
theorem leaf0 : nodeV s5 0 0 = d16 184018777003680449547951074139377501971 := by
  show leafF (topF s5 ((0 : Nat) : Int)) = _
  rw [leafF_congr top0_eq, leafF, ofX_eq, ofX_eq, key0, leaf0x]
end Go.PM

namespace Go.PM
open Go.Proofs
def A1 : List Row := [
  (274168051610382101390849617046945852513, 295605691573677500587856435584641766001, 216738756083459470280965215522160445982, 115850148092376146337209226720560807461),
  (10530888394228829252468337469287005003, 127695644003094146331384371694642648453, 98793096313121893391635765307149825328, 59819714250086723173195173880783491709),
  (311849785847566706542968446952839830944, 199187482285276668225328807372434319287, 109974217830746718173345174433669113436, 12195326031736472388932988392541756367),
  (71072713207454089566816078260521790944, 75042342786434898948777651911279941554, 269641623081414740236123927382031047978, 272492465710282364536096198955936179925),
  (152278984492498900163987399419362165393, 193108028548994568516363113846970646800, 303135019487375653182131466922054912482, 98562980880448491715860546061268144830),
  (286170108290725917526972799230969590910, 268204511438928379347870972228994579080, 19153440390481054103679030891081313854, 316701398889713140110853275731742838243),
  (163952388922797735733558620757802068220, 54268436347516015060329647275957488429, 142474128003237468561673179200046453219, 144561219082334729759082935625331189925),
  (65227238333654068516788005107059938574, 76839223356637387504989187975331589289, 122914297459777209231768521181167826600, 318424020038090954896410245903888662524),
  (9006964251003106505877105092728791256, 73711366398526373248155169983705752987, 114383895754669708480259886480317839044, 113255084587580388970953796000200567578),
  (191359661366508093989822340121225454251, 69185251750673545421985187469511776745, 163351288618654457028360290526450422419, 111481589002616731281823580836614280573),
  (313575010990491875120465601335681300855, 338292158052161902438941470030159346893, 326303459273441787844621463933118486408, 266729324883363177259260032941278283697),
  (273392343521959656293780146025796933177, 175822143743802155620641525953933846181, 210937318657379847416604487173541226233, 158939612215180326583288267697975507884),
  (216253505955492978028945005340083632193, 269578714531513132606903133039682983924, 318298051533506887344218093203409259717, 106484124115561390306154119601012638296),
  (164947028146719394498460455869324726141, 128965561032143195729143289461268586437, 64148578131014904595105646389465690462, 46596704309975342160350485436950072188),
  (175614944504178683333911846784347125307, 221805084464487800430552277178446080412, 31981077774838015944291785937942415015, 5049171503833601274219663768862678045),
  (124769909788898006539678482463970603767, 35536291891282215967163291301601904271, 116338543547749647669293958308642371574, 71996192335230606711892229757082349291),
  (232694099479791121815015883576819341918, 149185161768951897869839525720922948907, 313263483850113649124804813107183508140, 163081863879581366906759661985705652656),
  (44535441495902337526207034668244352366, 205793224320926944601558819328243531145, 123435167761054285239887244118491453031, 275018323858354975895520432756830792261),
  (263291837738439322268010708864267735089, 300831976676649253094484730259991448560, 293648347254540175973490930259162872805, 35594577534934257708947284504079896649),
  (132015799430827829045173459359646763966, 35309412740408300845108187520546234014, 322508033202152869792529026468499814364, 98156863047348957228748357183936929513),
  (329679481812107570319626697117654399886, 54611719080451904104940253303467886275, 163298159971244007961903671075959568517, 37215344347702183789974029460609686994),
  (263453167999390506372739262763090981479, 243652976377643531013219617362860030125, 70921297157624023687833435423339193212, 250292759467298577552530190860805489085),
  (52989395086194306867121964115111914706, 221931983902306607168227764282254649861, 8737664352486108192675525156411743162, 64725195268715969169836684151577338725),
  (48878126659615036204555616861860049558, 113398959488997754632260112621529496368, 268401741927283362381654272650048957534, 769414174457584475476873920570770564),
  (206366716954365266510796566096883504696, 337170523487875942161898749708749978047, 113281393235614719099026701129235421181, 205405977920438167752302194270445293615),
  (67815345479010520766548540593656408857, 181077536226157273584270253795263344463, 321270078197114935634805140186543224360, 54593063393320789323189743195538498785),
  (32700334808168283540439136270966353369, 162521847934944500556682962437130434570, 294325519494080200088055896011119271853, 200810958639726161946393310564084702941),
  (7114795110072478524754788663628095193, 35118438304865517631011140076381312727, 11741157767853338586060157522377259400, 174173661716271340745369981122279015303),
  (56279991345604415753309742777430220167, 178843582269457181901314642804930783063, 143441825984347567146580420970501070109, 237463388586468552225843184227153963274),
  (134408997788004433173391006370100097552, 79444049051292986908037460687040100843, 291809898872250631877315435455634839678, 29895144976555357030298910846794457513),
  (9446223357601353526614255797648001380, 253463057034451644280690251023789668850, 141286279848506047628009069253962283299, 107185638391926555996449231439908377888),
  (83590453343412584807675080228077186060, 202013061171344908396750191328578721699, 327691034643475909349258973987245620013, 46905400546773722089126476077871654856),
  (127015528969286333846919877272700163229, 315372864277960831967403865550262560725, 154096767888626442830226635726391938730, 305346189210975964798656255118314584651),
  (273080415560540906340719650629009100377, 305459820393904934650879956873661827139, 127582693896989870543441154586303982722, 304651200283336769052897975213747281152),
  (279839520506319562058178106537717494413, 51475302334537889328239792115004812179, 177131822628269429449510805975372287615, 36628659942956032141604603687370176088),
  (223910519660103526400927532342609733406, 236541795196720689064716150190550809088, 76379385999879128370915175432923586484, 231378213844798610314946442836831640839),
  (18809787759543159676590940610045513299, 87683150997467664322325707347751050789, 149714036475086796052551277955941277122, 238635364818136858224861640879977830407),
  (54555481767809071913260293747770243779, 35447681108735961529327596440600821255, 1841766317345026316501084710041872787, 193441309589829199653758785555767319305),
  (138730091581477147320172173163549800680, 30531976430766166638233909530787156488, 44610039466369145712024337921707861615, 61079185773977289063551761067751182943),
  (23649688502779485039560731219822536621, 334480040015923180611726867392943709881, 22478734455612078004762694182730651927, 25885654453462622245932210846626083899),
  (267626965679931485108068622998805464094, 312936995598807931191268806155505790345, 75505308410360061324467437693780248023, 208869388285634104145708991590567908115),
  (21284911873062252017179114715556642900, 153623307008936650854473207654161880779, 267817171871315501677140120061258690229, 42616599113858966759345976417802238364),
  (240576878396019655838720950766614413770, 10773318600583225918847519930816100366, 340088711162757174244957512670641308724, 209930277721597806231315425070322827764),
  (203856401656014263793530573277957580319, 95786056113380052784665604368586939649, 206777601884104298910476089278589722889, 270815473485935416369339112047923390745),
  (288243376993447775224203001337524933924, 220487671261240302183513368763006722878, 149991034942389022492933196448819338498, 36505010251724226233237466788665272808),
  (260721377061212858689102403303734899661, 227029483086183933446983391782708498625, 16644598684073858220773932172323098385, 172738503690003683874998729195118309552),
  (124588869368954306923616157034294755546, 14545134882816068810692164296798627230, 185872656703659081799177325315552203338, 273596431960994860283599359909725141258),
  (215517280280104922170030717891364808446, 316565808234736023449778164610722386895, 6059235482238397695825988339436246870, 186995399775214678551558208157994945210),
  (34692548260589930281619105118597992685, 290411948361474752836145140297572268814, 86870355434182638533385996753966154073, 60946228764879432608426663391142234702),
  (45406135579063680059915803627934950554, 57958015250079773041114837473679097901, 30701638351589745826593193545628701578, 59470213451425187594546069254943438919),
  (41368715993020573146646574347162829554, 195063294745166023600745771978156943679, 685153735265738898887391934604234547, 276940737820402040128704946806813854684),
  (239550153298703398885340470317245922539, 77213309784011274739442671686862563441, 79329648708076184827774036057667541311, 294622364136572321360387198953294422577),
  (133325860891550749668304260911191374092, 286158982067266643319890130826265267860, 110439831710128966873234005497095792719, 337626542103298279987566427628687918068),
  (151290160220279338979434795548534387988, 220499478173551543555908250788966904563, 142431356158119957164816536775279724611, 255476290537994689109264376177319125144),
  (171061587921251800754154963787143864081, 222578521006277831329592029151834750201, 46785513930621930432444961890641193285, 119716166619518123422874286143946371915),
  (139520244015800917409022530269436304907, 179580465644326967087193186212447557756, 208705515571744941235925257953859395300, 50104391913859449814115712546927623148),
  (179233948456800083323740065677115897692, 276228735793749666338052889431715732263, 187846124496862713727657684233405688608, 101153968509510211338065722843389106976),
  (75534043257133539760032510178271690551, 169747329959078251280935298051236050628, 55962027075966962589391375997453897245, 2592829543781295095011521991552429580),
  (84960048689729946984477684641037892122, 161367513434788301041814564384451368177, 12320672648905695128745970135836615562, 189279031681297057245562502014781434181),
  (334563834301774013780115643887641662646, 234535722317272805530469930646398775671, 297670971564703260677388053443514841070, 21730053340779280310529435579583601503),
  (43765080350366065026508928916381996312, 25069214985629147076498580613757649617, 255005462317865837244159599121599926751, 126270856492604340995332263030802905824),
  (91278441985274087224584958356016869448, 263503392288251117016154652309135198848, 260812856937286490053919936109494861766, 67499210682041773491170669395631156213),
  (325542266970272637533434631614190221673, 72570763624653339650972339885007416764, 188311054089023259825785306373151375617, 63483117418820155221781804260274850642),
  (75864331703676563235896708886003907396, 101068379375243838330131836295786856208, 126333865166655129961794908602757668791, 191653619169163316361130006950874943833),
  (285820036134631710950502262666830372305, 58962837234515271366519165456605293594, 96902853332646708009356215549183663434, 273599847552459608060742946846434214077),
  (19031708638522513720176403147097939490, 132439824500303062798589455059413141899, 53059746998179692383373247012204620759, 125486086404852738165408453950046778315),
  (80738912612972437909543345398279839553, 60825941000513388104164206270449658913, 254111851404866980516454584003067034226, 60945506663939948191846479570847220706),
  (157199414446869401783650499561963336814, 44473647530267255464705902486143159666, 8725389510900733534297243236329988749, 105330232672059119235538775776715517581)]
def rowA (c : Nat) : Row := A1.getD c (0, 0, 0, 0)
def row1 (c : Nat) : Bool := rowOk c (rowA c)
set_option maxRecDepth 1000000 in
theorem row1_0 : (List.range' 0 17).all row1 = true := by decide +kernel
set_option maxRecDepth 1000000 in
theorem row1_1 : (List.range' 17 17).all row1 = true := by decide +kernel
set_option maxRecDepth 1000000 in
theorem row1_2 : (List.range' 34 17).all row1 = true := by decide +kernel
set_option maxRecDepth 1000000 in
theorem row1_3 : (List.range' 51 17).all row1 = true := by decide +kernel
theorem row1_eq (c : Nat) (hc : c < 68) : rowOk c (rowA c) = true := all68 row1_0 row1_1 row1_2 row1_3 c hc
theorem top1_eq (c : Nat) (hc : c < 68) : topF s5 ((1 : Nat) : Int) c = d16 (rowA c).2.2.2 := adv_pick (row1_eq c hc) 3 (by omega)
set_option maxRecDepth 1000000 in
theorem key1 : ofX 9 [catF (fun c => d16 (rowA c).2.2.2) 68] = d16 197365364537375192850201042210482482016 := by decide +kernel
set_option maxRecDepth 1000000 in
theorem leaf1x : ofX 1 [d16 197365364537375192850201042210482482016] = d16 329558533519312649908538082074946617632 := by decide +kernel
theorem leaf1 : nodeV s5 0 1 = d16 329558533519312649908538082074946617632 := by
  show leafF (topF s5 ((1 : Nat) : Int)) = _
  rw [leafF_congr top1_eq, leafF, ofX_eq, ofX_eq, key1, leaf1x]
set_option maxRecDepth 1000000 in
theorem root5x : ofX 2 [d16 184018777003680449547951074139377501971, d16 329558533519312649908538082074946617632] = d16 178985149257503958154826359616625621640 := by decide +kernel
theorem root5 : nodeV s5 1 0 = d16 178985149257503958154826359616625621640 := by
  show nodeF (nodeV s5 0 0) (nodeV s5 0 1) = _
  rw [leaf0, leaf1, nodeF, ofX_eq, root5x]
end Go.PM

namespace Go.PM
open Go.Proofs
def QM : List Nat := [0, 3, 3, 3, 3, 1, 3, 3, 1, 0, 0, 0, 1, 0, 2, 2, 0, 3, 0, 2, 3, 0, 2, 1, 1, 3, 2, 1, 0, 3, 3, 3, 3, 3, 1, 0, 3, 1, 3, 2, 3, 3, 0, 2, 0, 1, 1, 0, 3, 3, 2, 3, 2, 1, 0, 3, 1, 1, 3, 1, 0, 0, 2, 0, 1, 1, 2, 1]
def QN : List Nat := [3, 2, 0, 2, 2, 0, 2, 2, 1, 0, 0, 1, 0, 2, 3, 0, 3, 1, 3, 0, 1, 2, 1, 3, 1, 1, 1, 3, 1, 3, 0, 1, 2, 2, 3, 1, 1, 1, 0, 3, 1, 2, 1, 0, 0, 1, 2, 3, 1, 1, 2, 2, 0, 0, 0, 3, 0, 2, 3, 3, 1, 2, 3, 0, 1, 2, 1, 1]
def VN : List Nat := [
  274168051610382101390849617046945852513, 860376024658699001793282768237166900, 154528339535634492046591011143784450603, 203318626405376924907803671723782324901,
  284189409308600891303265746115304969239, 196816167255404918106889986201732703838, 182142543401825163769790322436535034955, 7601564054685307569584886237354590648,
  113255084587580388970953796000200567578, 111481589002616731281823580836614280573, 266729324883363177259260032941278283697, 302242400285787046103552218850304624705,
  202252565848362656706201675775108408880, 336909752072494033499119404084963429061, 31981077774838015944291785937942415015, 62979651154831672577572064602550104994,
  232694099479791121815015883576819341918, 124438283072023096146753530756197979184, 263291837738439322268010708864267735089, 37639268542258363331043683533672615142,
  327613885653817700472983230573097277468, 167214592976762931596940537211139008395, 33556259031823545614341804571305561309, 113398959488997754632260112621529496368,
  205405977920438167752302194270445293615, 6341520945124247510869652449839721498, 115903189159869520319150979201433048688, 35118438304865517631011140076381312727,
  89095652416080869460209978644966672808, 29895144976555357030298910846794457513, 312435912041485720237228625637557712021, 135415446903937188505720217463401545247,
  323514598793339291742101965724321321514, 158236021260027543793828510722173536205, 51475302334537889328239792115004812179, 119021608229761482396787297245666219651,
  255716250926067881071469638644307424375, 193441309589829199653758785555767319305, 71934699054162917634481317141413331302, 22478734455612078004762694182730651927,
  87490773408079920972369394429936731911, 310901499744530753391614723532500452022, 4233067842563176073489382943492954471, 292272241513604165466330600547852062503,
  36505010251724226233237466788665272808, 172738503690003683874998729195118309552, 216192848907199222537022644804369740654, 215517280280104922170030717891364808446,
  12786476454395428849691237042851682400, 20058452790270284242257169822023741122, 276940737820402040128704946806813854684, 337050548589721152748852501718872536320,
  51874187607958876185771707160804362167, 230965156801504569342380129230974664220, 119716166619518123422874286143946371915, 50104391913859449814115712546927623148,
  62786866555118407929916328305530096071, 50720861386505915496015317845892877687, 189279031681297057245562502014781434181, 234535722317272805530469930646398775671,
  105444858166658612055045262538035777652, 19000031566522818894581983682124083541, 188311054089023259825785306373151375617, 191653619169163316361130006950874943833,
  273599847552459608060742946846434214077, 269314298311060567643380842973536150405, 246693729536966391333797917645352866322, 105330232672059119235538775776715517581]
set_option maxRecDepth 1000000 in
theorem dm_eq : digF (ofX 3 [d16 178985149257503958154826359616625621640, intB 1, [109]]) = QM := by decide +kernel
set_option maxRecDepth 1000000 in
theorem dn_eq : digF (ofX 3 [d16 178985149257503958154826359616625621640, intB 1, [110]]) = QN := by decide +kernel
set_option maxRecDepth 1000000 in
theorem d01 : ofX 3 [d16 178985149257503958154826359616625621640, intB 1, [109]] ≠ ofX 3 [d16 178985149257503958154826359616625621640, intB 0, [109]] := by decide +kernel
def topN (c : Nat) : Bool := advX 1 c (QN.getD c 0 : Nat) (3 - (QN.getD c 0 : Nat) : Int).toNat (d16 (pick (rowA c) (QM.getD c 0))) == d16 (VN.getD c 0)
set_option maxRecDepth 1000000 in
theorem topN_0 : (List.range' 0 17).all topN = true := by decide +kernel
set_option maxRecDepth 1000000 in
theorem topN_1 : (List.range' 17 17).all topN = true := by decide +kernel
set_option maxRecDepth 1000000 in
theorem topN_2 : (List.range' 34 17).all topN = true := by decide +kernel
set_option maxRecDepth 1000000 in
theorem topN_3 : (List.range' 51 17).all topN = true := by decide +kernel
set_option maxRecDepth 1000000 in
theorem keyN : ofX 9 [catF (fun c => d16 (VN.getD c 0)) 68] = d16 101091907683399067443610324763245329593 := by decide +kernel
set_option maxRecDepth 1000000 in
theorem leafNx : ofX 1 [d16 101091907683399067443610324763245329593] = d16 6214762379310136211057786199230634728 := by decide +kernel
set_option maxRecDepth 1000000 in
theorem rootNx : ofX 2 [d16 184018777003680449547951074139377501971, d16 6214762379310136211057786199230634728] ≠ d16 178985149257503958154826359616625621640 := by decide +kernel
theorem QM_lt : ∀ c : Nat, QM.getD c 0 < 4 := by
  intro c
  by_cases hc : c < 68
  · have h : (List.range 68).all (fun c => decide (QM.getD c 0 < 4)) = true := by decide +kernel
    rw [List.all_eq_true] at h
    simpa using h c (by simpa using hc)
  · rw [List.getD_eq_getElem?_getD, List.getElem?_eq_none (by simpa [QM] using hc)]
    decide
theorem dig_m : digF (digestF (nodeV s5 1 0) ((1 : Nat) : Int) [109]) = QM := by
  rw [root5, digestF, ofX_eq]
  exact dm_eq
theorem dig_n : digF (digestF (nodeV s5 1 0) ((1 : Nat) : Int) [110]) = QN := by
  rw [root5, digestF, ofX_eq]
  exact dn_eq
theorem san_dig : digestF (nodeV s5 1 0) 1 [109] ≠ digestF (nodeV s5 1 0) 0 [109] := by
  rw [root5, digestF, digestF, ofX_eq, ofX_eq]
  exact d01
theorem chainN (c : Nat) (hc : c < 68) : vfV ((1 : Nat) : Int) (digF (digestF (nodeV s5 1 0) ((1 : Nat) : Int) [110])) (sigR s5 1 1 [109]) c = d16 (VN.getD c 0) := by
  have h := all68 topN_0 topN_1 topN_2 topN_3 c hc
  rw [topN, beq_iff_eq] at h
  have hs : sigV s5 ((1 : Nat) : Int) QM c = d16 (pick (rowA c) (QM.getD c 0)) := adv_pick (row1_eq c hc) _ (QM_lt c)
  rw [vfV, sigR_chain s5 1 1 [109] c hc, dig_m, dig_n, hs, advX_eq]
  exact h
theorem san_root : rootF (nodeV s5 1 0) 1 1 [110] (sigR s5 1 1 [109]) ≠ nodeV s5 1 0 := by
  have h0 : restV (sigR s5 1 1 [109]) (68 + 0) = d16 184018777003680449547951074139377501971 := by
    rw [sigR_path s5 1 1 [109] 0 (by omega), patV]
    exact leaf0
  rw [rootF, leafF_congr chainN, leafF, ofX_eq, ofX_eq, keyN, leafNx, wayF, wayF, h0, if_pos (by decide), root5, nodeF, ofX_eq]
  exact rootNx
theorem san_ok : verF (nodeV s5 1 0) 1 [109] (sigT s5 1 1 [109]) = (1, 0) := made_ok s5 [109] (h := 1) (i := 1) (by omega) (by decide)
theorem san_wrong : verF (nodeV s5 1 0) 1 [110] (sigT s5 1 1 [109]) = (0, 10) := by
  have h := verF_app (nodeV s5 1 0) (h := 1) (i := 1) [110] (sigR s5 1 1 [109]) (by omega) (by decide)
  rw [if_neg (by simpa using sigR_len s5 1 1 [109]), if_neg san_root] at h
  rw [sigT_eq]
  exact h
end Go.PM

namespace Go.PM
open Go.Proofs
attribute [local irreducible] W PCalls pcall pcallI WL
theorem sigT_len (seed : List UInt8) {h i : Nat} (m : List UInt8) (hh : h ≤ 6) (hi : i < 2 ^ h) : (sigT seed h i m).length ≤ 1300 := by
  have h9 := intB_len9 (inR_pow hh hi)
  rw [sigT_eq, List.length_append, sigR_len]
  omega
set_option maxRecDepth 100000 in
set_option maxHeartbeats 8000000 in
theorem san_c (G : Globs) (hG : G 1 = .iptr (KS.map pw) 0) : PCalls Tryd.prog G 9 [] [] (fun res H => res = pbool true ∧ H = []) := by
  have c1 := seed_c G 5
  have c1 : PCalls Tryd.prog G 20 [.val (.int .u8 5)] [] (fun res H => res = pstr s5 ∧ H = []) := c1
  have hsl : s5.length = 32 := rfl
  have c2 := hpub_c G hG s5 1 (by omega)
  rw [show pubF s5 1 = (nodeV s5 1 0, 0) by rw [pubF, if_pos (by decide)]; rfl] at c2
  have c2 : PCalls Tryd.prog G 12 [pstr s5, .val (.int .i64 1)] [] (fun res H => res = .tuple [.agg ((nodeV s5 1 0).map pbyte), pint .i64 0] ∧ H = []) := c2
  have c3 := hsign_c G hG s5 1 1 [109] (by omega) ⟨by omega, by omega⟩ (by simp)
  rw [show signF s5 1 1 [109] = (sigT s5 1 1 [109], 0) by rw [signF, if_neg (by decide), if_neg (by decide)]; rfl] at c3
  have c3 : PCalls Tryd.prog G 14 [pstr s5, .val (.int .i64 1), .val (.int .i64 1), .val (.string ⟨#[109]⟩)] [] (fun res H => res = .tuple [pstr (sigT s5 1 1 [109]), pint .i64 0] ∧ H = []) := c3
  have hvl := nodeV_len s5 1 0
  have hSl := sigT_len s5 (h := 1) (i := 1) [109] (by omega) (by decide)
  have c4 := hver_c G hG (nodeV s5 1 0) 1 [109] (sigT s5 1 1 [109]) hvl (by simp) (by omega)
  rw [san_ok] at c4
  have c4 : PCalls Tryd.prog G 18 [.agg ((nodeV s5 1 0).map pbyte), .val (.int .i64 1), .val (.string ⟨#[109]⟩), pstr (sigT s5 1 1 [109])] [] (fun res H => res = .tuple [pint .i64 1, pint .i64 0] ∧ H = []) := c4
  have c5 := hver_c G hG (nodeV s5 1 0) 1 [110] (sigT s5 1 1 [109]) hvl (by simp) (by omega)
  rw [san_wrong] at c5
  have c5 : PCalls Tryd.prog G 18 [.agg ((nodeV s5 1 0).map pbyte), .val (.int .i64 1), .val (.string ⟨#[110]⟩), pstr (sigT s5 1 1 [109])] [] (fun res H => res = .tuple [pint .i64 0, pint .i64 10] ∧ H = []) := c5
  have c6 := hsign_c G hG s5 1 2 [109] (by omega) ⟨by omega, by omega⟩ (by simp)
  rw [show signF s5 1 2 [109] = ([], 23) by rw [signF, if_neg (by decide), if_pos (by decide)]] at c6
  have c6 : PCalls Tryd.prog G 14 [pstr s5, .val (.int .i64 1), .val (.int .i64 2), .val (.string ⟨#[109]⟩)] [] (fun res H => res = .tuple [pstr [], pint .i64 23] ∧ H = []) := c6
  have c7 := hpub_c G hG (List.drop 1 s5) 0 (by rw [List.length_drop]; omega)
  rw [show pubF (List.drop 1 s5) 0 = (List.replicate 16 0, 1) by rw [pubF, if_neg (by decide)]] at c7
  have c7 : PCalls Tryd.prog G 12 [pstr (List.drop 1 s5), .val (.int .i64 0)] [] (fun res H => res = .tuple [.agg ((List.replicate 16 (0 : UInt8)).map pbyte), pint .i64 1] ∧ H = []) := c7
  have c8 := dig_c G (List.replicate 16 0) (by simp)
  have c9 := hdig_c G hG (nodeV s5 1 0) 1 [109] hvl ⟨by omega, by omega⟩ (by simp)
  have c9 : PCalls Tryd.prog G 16 [.agg ((nodeV s5 1 0).map pbyte), .val (.int .i64 1), .val (.string ⟨#[109]⟩)] [] (fun res H => res = .agg ((digestF (nodeV s5 1 0) 1 [109]).map pbyte) ∧ H = []) := c9
  have c10 := hdig_c G hG (nodeV s5 1 0) 0 [109] hvl ⟨by omega, by omega⟩ (by simp)
  have c10 : PCalls Tryd.prog G 16 [.agg ((nodeV s5 1 0).map pbyte), .val (.int .i64 0), .val (.string ⟨#[109]⟩)] [] (fun res H => res = .agg ((digestF (nodeV s5 1 0) 0 [109]).map pbyte) ∧ H = []) := c10
  have hq := q16 _ _ (digestF_len (nodeV s5 1 0) 1 [109]) (digestF_len (nodeV s5 1 0) 0 [109])
  rw [decide_eq_false san_dig] at hq
  have z0 := digF_get (List.replicate 16 0) 0 (by omega)
  rw [show (digF (List.replicate 16 0)).getD 0 0 = 0 by decide +kernel] at z0
  have z1 := digF_get (List.replicate 16 0) 64 (by omega)
  rw [show (digF (List.replicate 16 0)).getD 64 0 = 3 by decide +kernel] at z1
  have z2 := digF_get (List.replicate 16 0) 67 (by omega)
  rw [show (digF (List.replicate 16 0)).getD 67 0 = 0 by decide +kernel] at z2
  simp only [Int.natCast_zero, Int.cast_ofNat_Int] at z0 z1 z2
  have zl : ((digF (List.replicate 16 0)).map pn').length = 68 := by rw [List.length_map, digF_len]
  generalize (digF (List.replicate 16 0)).map pn' = D at *
  have y0 : D.getD 0 PV.junk = pint .i64 0 := by rw [List.getD_eq_getElem?_getD, z0]; rfl
  have y1 : D.getD 64 PV.junk = pint .i64 3 := by rw [List.getD_eq_getElem?_getD, z1]; rfl
  have y2 : D.getD 67 PV.junk = pint .i64 0 := by rw [List.getD_eq_getElem?_getD, z2]; rfl
  generalize sigT s5 1 1 [109] = S at *
  generalize digestF (nodeV s5 1 0) 1 [109] = d1 at *
  generalize digestF (nodeV s5 1 0) 0 [109] = d0 at *
  generalize nodeV s5 1 0 = p at *
  have hst : List.take 32 s5 = s5 := List.take_of_length_le (by omega)
  generalize s5 = s at *
  have hpo := all_one_byte p
  have hpl : (p.map pbyte).length = 16 := by rw [List.length_map, hvl]
  have tp : List.take 16 (p.map pbyte) = p.map pbyte := List.take_of_length_le (by omega)
  have zo := all_one_byte (List.replicate 16 0)
  have hZ2 : [pint .u8 0, pint .u8 0, pint .u8 0, pint .u8 0, pint .u8 0, pint .u8 0, pint .u8 0, pint .u8 0, pint .u8 0, pint .u8 0, pint .u8 0, pint .u8 0, pint .u8 0, pint .u8 0, pint .u8 0, pint .u8 0] = (List.replicate 16 (0 : UInt8)).map pbyte := rfl
  have zL : ((List.replicate 16 (0 : UInt8)).map pbyte).length = 16 := by simp
  have hZd : List.drop 16 ((List.replicate 16 (0 : UInt8)).map pbyte) = [] := List.drop_of_length_le (by omega)
  have hZt : List.take 16 ((List.replicate 16 (0 : UInt8)).map pbyte) = (List.replicate 16 (0 : UInt8)).map pbyte := List.take_of_length_le (by omega)
  generalize (List.replicate 16 (0 : UInt8)).map pbyte = Z at *
  (refine PCalls_f Tryd.func9 rfl Tryd.ntmps9 Tryd.results9 (by simp) fun fin hfin => ?_; have hnm : True := trivial; simp (maxSteps := 2000000) (disch := omega) only [evb, evd, eve, constPV, seqK, blockK, scopeK, pbound, pelems, PV.mem?, PV.one, PV.cells, peqs, peq1, pkeys, List.set, Value.cells, ↓popG_eq, ↓pop.eq_1, ↓List.getElem?_map, ↓List.getElem?_cons_zero, ↓List.getElem?_cons_succ, Value.oneCell', Nat.reduceAdd, Nat.reduceMul, Nat.reduceSub, Nat.reduceLeDiff, Nat.reduceEqDiff, ↓reduceIte, ne_eq, reduceCtorEq, forall_const, exists_and_left, exists_eq_left', eq_self, Nat.reduceLT, Int.reduceLT, Int.reduceLE, Int.reduceToNat, Int.reduceAdd, Int.reduceSub, Int.reduceNeg, hnm, Tryd.tf0, Tryd.tf1, Tryd.tf3, Tryd.tf4, Tryd.tf5, Tryd.tf9, Tryd.tf23, Tryd.teq23, Tryd.tf25, Tryd.tf29, Tryd.tf30, Tryd.tf32, Tryd.tf36, Tryd.call10, Tryd.call12, Tryd.call14, Tryd.call16, Tryd.call18, Tryd.call20])
  repeat' (first
    | (with_reducible apply W_seq_k; intro nx hnx)
    | (with_reducible first | apply W_block | apply W_scope)
    | (with_reducible refine W_prune 27391 ?_; simp only [prb, Nat.reducePow, Nat.reduceDiv, Nat.reduceMod, Nat.reduceBEq]; first | (with_reducible apply W_region_l) | with_reducible refine W_region_draw (id := 11) 8 (.op 0 true (.op 1 true (.op 2 true (.op 3 true (.op 4 true (.op 5 true (.op 6 true (.op 7 true (.op 8 true (.op 9 true (.op 10 true (.op 11 true (.op 12 true (.op 13 true (.op 14 true (.op 15 true (.op 16 true (.op 17 true (.op 18 true (.op 19 true (.op 20 true (.op 21 true (.op 22 true (.op 23 true (.op 24 true (.op 25 true (.op 26 true (.op 27 true (.op 28 true (.op 29 true (.op 30 true (.op 31 true (.op 32 true (.op 33 true (.op 35 true (.op 34 true (.op 36 false (.op 37 true (.op 38 true (.op 39 true (.done))))))))))))))))))))))))))))))))))))))))) (by kernel_rfl) ?_)
    | ((first | (with_reducible apply WL_op; intro nx hnx) | with_reducible refine Ev_out ?_ | (with_reducible apply popsD_op; intro nx hnx) | (with_reducible refine popsD_alt ?_ ?_; intro nx hnx) | (with_reducible refine pfresh_k hnm fun nm hnm => ?_; (try simp only [fmb] at hnm)) | (with_reducible refine pborn_mu hnm fun nm hnm => ?_; (try simp only [fmb] at hnm))); try (simp (maxSteps := 2000000) (disch := omega) only [evb, evd, eve, constPV, seqK, blockK, scopeK, pbound, pelems, PV.mem?, PV.one, PV.cells, peqs, peq1, pkeys, List.set, Value.cells, ↓popG_eq, ↓pop.eq_1, ↓List.getElem?_map, ↓List.getElem?_cons_zero, ↓List.getElem?_cons_succ, Value.oneCell', Nat.reduceAdd, Nat.reduceMul, Nat.reduceSub, Nat.reduceLeDiff, Nat.reduceEqDiff, ↓reduceIte, ne_eq, reduceCtorEq, forall_const, exists_and_left, exists_eq_left', eq_self, Nat.reduceLT, Int.reduceLT, Int.reduceLE, Int.reduceToNat, Int.reduceAdd, Int.reduceSub, Int.reduceNeg, hnm, Tryd.tf0, Tryd.tf1, Tryd.tf3, Tryd.tf4, Tryd.tf5, Tryd.tf9, Tryd.tf23, Tryd.teq23, Tryd.tf25, Tryd.tf29, Tryd.tf30, Tryd.tf32, Tryd.tf36, Tryd.call10, Tryd.call12, Tryd.call14, Tryd.call16, Tryd.call18, Tryd.call20, hsl, hst, hpo, hpl, tp, zo, hZ2, zL, hZd, hZt, z0, z1, z2, zl, y0, y1, y2, hq]); repeat (refine And.intro (by omega) ?_))
    | ((with_reducible first | apply WL_nil | apply W_label | apply W_skip | apply W_exit | apply W_ret | apply popsD_done); try simp only [seqK, blockK, scopeK, ↓reduceIte, Nat.reduceEqDiff])
    | with_reducible exact popsD_stop
    | (with_reducible apply pguard_intro <;> (intro hc; (try simp only [hcb, reduceCtorEq, forall_const, ne_eq] at hc); first | (exfalso; omega) | (exfalso; exact hc trivial) | refine Ev_in ?_))
    | (with_reducible apply W_cond_k; intro _ _ ea eb; (simp only [condK, cob, opnd, constPV, Nat.reduceEqDiff, Nat.reduceLT, ↓reduceIte, hcb, reduceCtorEq, forall_const, ne_eq]); subst ea eb; first | (refine ⟨fun hc => ?_, fun hc => ?_⟩ <;> first | (exfalso; omega) | (exfalso; exact hc trivial) | skip) | skip)
    | (with_reducible apply hnx; clear hnx nx)
    | (with_reducible refine And.intro (by omega) ?_)
    | (with_reducible refine And.intro ?_ ?_)
    | (with_reducible refine pcall_k (c1) ?_; rintro _ _ ⟨rfl, rfl⟩ -; refine Ev_in ?_)
    | (with_reducible refine pcall_k (c2) ?_; rintro _ _ ⟨rfl, rfl⟩ -; refine Ev_in ?_)
    | (with_reducible refine pcall_k (c3) ?_; rintro _ _ ⟨rfl, rfl⟩ -; refine Ev_in ?_)
    | (with_reducible refine pcall_k (c4) ?_; rintro _ _ ⟨rfl, rfl⟩ -; refine Ev_in ?_)
    | (with_reducible refine pcall_k (c5) ?_; rintro _ _ ⟨rfl, rfl⟩ -; refine Ev_in ?_)
    | (with_reducible refine pcall_k (c6) ?_; rintro _ _ ⟨rfl, rfl⟩ -; refine Ev_in ?_)
    | (with_reducible refine pcall_k (c7) ?_; rintro _ _ ⟨rfl, rfl⟩ -; refine Ev_in ?_)
    | (with_reducible refine pcall_k (c8) ?_; rintro _ _ ⟨rfl, rfl⟩ -; refine Ev_in ?_)
    | (with_reducible refine pcall_k (c9) ?_; rintro _ _ ⟨rfl, rfl⟩ -; refine Ev_in ?_)
    | (with_reducible refine pcall_k (c10) ?_; rintro _ _ ⟨rfl, rfl⟩ -; refine Ev_in ?_)
    | (clear hnx nx; with_reducible apply hnx; clear hnx nx)
    | (clear hnx nx; clear hnx nx; with_reducible apply hnx; clear hnx nx))
  all_goals first
    | exact absurd trivial hc
    | exact rfl
    | (exfalso
       omega)
    | (refine hfin _ _ (Fin_ret1 rfl (Sub_nil _) ?_); simp only [List.getD_cons_zero, List.getD_cons_succ, fr_getD_cons, fr_getD_nil, Nat.reduceEqDiff, Nat.reduceLT, ↓reduceIte]; first | trivial | exact ⟨rfl, by trivial⟩ | (simp; done) | (simp; omega))
end Go.PM

namespace Go.PM
open Go.Proofs
attribute [local irreducible] W PCalls pcall pcallI WL
theorem wrap_byte (x : UInt8) : IntKind.i64.wrap ((x.toNat : Nat) : Int) = ((x.toNat : Nat) : Int) := by
  have := x.toNat_lt
  simp [IntKind.wrap, IntKind.bits, IntKind.signed]
  omega
theorem tmod_nat (a b : Nat) : Int.tmod (a : Int) (b : Int) = ((a % b : Nat) : Int) := by
  rw [Int.tmod_eq_emod_of_nonneg (by omega)]
  omega
end Go.PM
