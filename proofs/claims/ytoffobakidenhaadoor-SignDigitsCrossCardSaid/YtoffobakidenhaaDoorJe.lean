/- Joined texts (Md Ma Mt Mq Gi Gj Gk Gl Gm Mi Me Mf Mg Mh Mj): the machine, the contracts, the laws. Conditions: none but those that each names. -/
import Derived.Test.YtoffobakidenhaaDoorJd
set_option linter.unusedSimpArgs false
set_option linter.unusedVariables false
namespace Go.PM
open Go.Proofs
attribute [local irreducible] W PCalls pcall pcallI WL
set_option maxRecDepth 100000 in
set_option maxHeartbeats 8000000 in
theorem leaf_c (G : Globs) (hG : G 1 = .iptr (KS.map pw) 0) (f : FuncId) (caps : List PV) (vals : Nat → List UInt8) (hv : ∀ c, c < 68 → (vals c).length = 16) (hcall : callable Tryd.prog f = true)
    (hc : ∀ c : Nat, c < 68 → PCalls Tryd.prog G f (pint .i64 c :: caps) [] (fun res H => res = .agg ((vals c).map pbyte) ∧ H = [])) :
    PCalls Tryd.prog G 38 [.func f caps] [] (fun res H => res = .agg ((leafF vals).map pbyte) ∧ H = []) := by
  obtain ⟨Z, hZ⟩ : ∃ Z, Z = List.replicate 16 (pint .u8 0) := ⟨_, rfl⟩
  have hZ2 : [pint .u8 0, pint .u8 0, pint .u8 0, pint .u8 0, pint .u8 0, pint .u8 0, pint .u8 0, pint .u8 0, pint .u8 0, pint .u8 0, pint .u8 0, pint .u8 0, pint .u8 0, pint .u8 0, pint .u8 0, pint .u8 0] = Z := by rw [hZ]; rfl
  have hZl : Z.length = 16 := by rw [hZ]; rfl
  have hZd : List.drop 16 Z = [] := List.drop_of_length_le (by omega)
  have hZo : Z.all PV.one = true := by rw [hZ]; rfl
  (refine PCalls_f Tryd.func38 rfl Tryd.ntmps38 Tryd.results38 (by simp) fun fin hfin => ?_; have hnm : True := trivial; simp (maxSteps := 2000000) (disch := omega) only [evb, evd, pbuiltin, constPV, pnck, seqK, blockK, scopeK, pbin, pun, ppick, plen, piaddr, pindex, pfield, pslice, pbound, pconv, pelems, pextract, pmm, PV.mem?, PV.one, PV.cells, pageq, peqs, peq1, pmakes, pstore, pbytes, pmark, pusd, pust, psrc, pkey, pkeys, pnile, pcap, pgrow, List.set, Value.cells, ↓popG_eq, ↓pop.eq_1, ↓List.getElem?_map, ↓List.getElem?_cons_zero, ↓List.getElem?_cons_succ, Value.oneCell', Nat.reduceAdd, Nat.reduceMul, Nat.reduceSub, Nat.reduceLeDiff, Nat.reduceEqDiff, ↓reduceIte, ne_eq, reduceCtorEq, forall_const, exists_and_left, exists_eq_left', eq_self, Nat.reduceLT, Int.reduceLT, Int.reduceLE, Int.reduceToNat, Int.reduceAdd, Int.reduceSub, Int.reduceNeg, hnm, Tryd.tf0, Tryd.tf1, Tryd.tf3, Tryd.tf4, Tryd.tf5, Tryd.tf9, Tryd.teq22, Tryd.tf23, Tryd.teq23, Tryd.teq28, Tryd.tf52, Tryd.tf54, Tryd.tf57, Tryd.tf66, Tryd.tf69, Tryd.teq82, Tryd.teq83, Tryd.teq89, Tryd.teq103, Tryd.teq106, Tryd.call25, Tryd.call29, Tryd.call34])
  repeat' (first
    | (with_reducible apply W_seq_k; intro nx hnx)
    | (with_reducible first | apply W_block | apply W_scope)
    | (with_reducible refine W_prune 253 ?_; simp only [prb, Nat.reducePow, Nat.reduceDiv, Nat.reduceMod, Nat.reduceBEq]; with_reducible apply W_region_l)
    | ((first | (with_reducible apply WL_op; intro nx hnx) | with_reducible refine Ev_out ?_ | (with_reducible refine pfresh_k hnm fun nm hnm => ?_; (try simp only [fmb] at hnm)) | (with_reducible refine pborn_mu hnm fun nm hnm => ?_; (try simp only [fmb] at hnm))); try (simp (maxSteps := 2000000) (disch := omega) only [evb, evd, pbuiltin, constPV, pnck, seqK, blockK, scopeK, pbin, pun, ppick, plen, piaddr, pindex, pfield, pslice, pbound, pconv, pelems, pextract, pmm, PV.mem?, PV.one, PV.cells, pageq, peqs, peq1, pmakes, pstore, pbytes, pmark, pusd, pust, psrc, pkey, pkeys, pnile, pcap, pgrow, List.set, Value.cells, ↓popG_eq, ↓pop.eq_1, ↓List.getElem?_map, ↓List.getElem?_cons_zero, ↓List.getElem?_cons_succ, Value.oneCell', Nat.reduceAdd, Nat.reduceMul, Nat.reduceSub, Nat.reduceLeDiff, Nat.reduceEqDiff, ↓reduceIte, ne_eq, reduceCtorEq, forall_const, exists_and_left, exists_eq_left', eq_self, Nat.reduceLT, Int.reduceLT, Int.reduceLE, Int.reduceToNat, Int.reduceAdd, Int.reduceSub, Int.reduceNeg, hnm, Tryd.tf0, Tryd.tf1, Tryd.tf3, Tryd.tf4, Tryd.tf5, Tryd.tf9, Tryd.teq22, Tryd.tf23, Tryd.teq23, Tryd.teq28, Tryd.tf52, Tryd.tf54, Tryd.tf57, Tryd.tf66, Tryd.tf69, Tryd.teq82, Tryd.teq83, Tryd.teq89, Tryd.teq103, Tryd.teq106, Tryd.call25, Tryd.call29, Tryd.call34]); repeat (refine And.intro (by omega) ?_))
    | ((with_reducible first | apply WL_nil | apply W_label | apply W_skip | apply W_exit | apply W_ret); try simp only [seqK, blockK, scopeK, ↓reduceIte, Nat.reduceEqDiff])
    | (with_reducible apply W_cond_k; intro _ _ ea eb; (simp only [condK, cob, opnd, constPV, Nat.reduceEqDiff, Nat.reduceLT, ↓reduceIte, hcb, reduceCtorEq, forall_const, ne_eq]); subst ea eb; first | (refine ⟨fun hc => ?_, fun hc => ?_⟩ <;> first | (exfalso; omega) | (exfalso; exact hc trivial) | skip) | skip)
    | (with_reducible apply hnx; clear hnx nx)
    | (with_reducible refine And.intro (by omega) ?_)
    | (with_reducible refine And.intro ?_ ?_)
    | (clear hnx nx; with_reducible apply hnx; clear hnx nx)
    | (clear hnx nx; clear hnx nx; with_reducible apply hnx; clear hnx nx)
    | (clear hnx nx; clear hnx nx; clear hnx nx; with_reducible apply hnx; clear hnx nx))
  obtain ⟨NB, hNB⟩ : ∃ N, N = nm := ⟨_, rfl⟩
  subst hNB
  obtain ⟨NA, hNA⟩ : ∃ N, N = nm := ⟨_, rfl⟩
  subst hNA
  refine W_loop_k (fun z τ => ∃ (c : Nat) (s : List UInt8) (HB : Heap), c ≤ 68 ∧ z = 68 - c ∧ s = catF vals c ∧ s.length = 16 * c ∧ BS NB s HB ∧ (names (HB ++ [(NA, ⟨23, false, 0, Z⟩)])).Nodup ∧
      τ = ⟨fr 23 [(7, pint .i64 c), (3, .ptr NB 0), (2, .ptr NA 0), (0, .func f caps)], HB ++ [(NA, ⟨23, false, 0, Z⟩)]⟩) 68
    ⟨fr 23 [(7, pint .i64 (0 : Nat)), (3, .ptr NB 0), (2, .ptr NA 0), (0, .func f caps)], [(NB, ⟨54, false, 0, [.val (.pointer none), pnil]⟩)] ++ [(NA, ⟨23, false, 0, Z⟩)]⟩ (by
    rw [← hZ2]
    refine Wk_fr (by simp only [wkb, Nat.reduceEqDiff, Nat.reduceLT, ↓reduceIte]) ?_
    exact Sub_refl (by simp [names, hnm])) ⟨0, [], _, by omega, by omega, rfl, rfl, .inl ⟨rfl, rfl⟩, by simp [names, hnm], rfl⟩ ?_
  rintro z τ ⟨c, s, HB, hcl, rfl, hs, hsl, hB, hnd, rfl⟩ lp hlp
  by_cases hlt : c < 68
  · have c1 := hc c hlt
    have hvl := hv c hlt
    have hsu := catF_succ vals c
    obtain ⟨u, hu⟩ : ∃ u, u = s ++ vals c := ⟨_, rfl⟩
    have hul : u = catF vals (c + 1) := by rw [hu, hs, hsu]
    have hull : u.length = 16 * (c + 1) := by rw [hu, List.length_append, hsl, hvl]; omega
    generalize vals c = x at *
    have cw := fun v => writeA_c G NB v s x hvl (by omega) HB hB
    rw [← hu] at cw
    have hxl : (x.map pbyte).length = 16 := by rw [List.length_map, hvl]
    have tx : List.take 16 (x.map pbyte) = x.map pbyte := List.take_of_length_le (by omega)
    have hxo := all_one_byte x
    repeat' (first
    | (with_reducible apply W_seq_k; intro nx hnx)
    | (with_reducible first | apply W_block | apply W_scope)
    | (with_reducible refine W_prune 253 ?_; simp only [prb, Nat.reducePow, Nat.reduceDiv, Nat.reduceMod, Nat.reduceBEq]; with_reducible apply W_region_l)
    | ((first | (with_reducible apply WL_op; intro nx hnx) | with_reducible refine Ev_out ?_ | (with_reducible refine pfresh_k hnm fun nm hnm => ?_; (try simp only [fmb] at hnm)) | (with_reducible refine pborn_mu hnm fun nm hnm => ?_; (try simp only [fmb] at hnm))); try (simp (maxSteps := 2000000) (disch := omega) only [evb, evd, pbuiltin, constPV, pnck, seqK, blockK, scopeK, pbin, pun, ppick, plen, piaddr, pindex, pfield, pslice, pbound, pconv, pelems, pextract, pmm, PV.mem?, PV.one, PV.cells, pageq, peqs, peq1, pmakes, pstore, pbytes, pmark, pusd, pust, psrc, pkey, pkeys, pnile, pcap, pgrow, List.set, Value.cells, ↓popG_eq, ↓pop.eq_1, ↓List.getElem?_map, ↓List.getElem?_cons_zero, ↓List.getElem?_cons_succ, Value.oneCell', Nat.reduceAdd, Nat.reduceMul, Nat.reduceSub, Nat.reduceLeDiff, Nat.reduceEqDiff, ↓reduceIte, ne_eq, reduceCtorEq, forall_const, exists_and_left, exists_eq_left', eq_self, Nat.reduceLT, Int.reduceLT, Int.reduceLE, Int.reduceToNat, Int.reduceAdd, Int.reduceSub, Int.reduceNeg, hnm, Tryd.tf0, Tryd.tf1, Tryd.tf3, Tryd.tf4, Tryd.tf5, Tryd.tf9, Tryd.teq22, Tryd.tf23, Tryd.teq23, Tryd.teq28, Tryd.tf52, Tryd.tf54, Tryd.tf57, Tryd.tf66, Tryd.tf69, Tryd.teq82, Tryd.teq83, Tryd.teq89, Tryd.teq103, Tryd.teq106, Tryd.call25, Tryd.call29, Tryd.call34, hcall, hxl, tx, hxo, hZ2, hZl, hZd, hZo]); repeat (refine And.intro (by omega) ?_))
    | ((with_reducible first | apply WL_nil | apply W_label | apply W_skip | apply W_exit | apply W_ret); try simp only [seqK, blockK, scopeK, ↓reduceIte, Nat.reduceEqDiff])
    | (with_reducible apply W_cond_k; intro _ _ ea eb; (simp only [condK, cob, opnd, constPV, Nat.reduceEqDiff, Nat.reduceLT, ↓reduceIte, hcb, reduceCtorEq, forall_const, ne_eq]); subst ea eb; first | (refine ⟨fun hc => ?_, fun hc => ?_⟩ <;> first | (exfalso; omega) | (exfalso; exact hc trivial) | skip) | skip)
    | (with_reducible apply hnx; clear hnx nx)
    | (with_reducible refine And.intro (by omega) ?_)
    | (with_reducible refine And.intro ?_ ?_)
    | (with_reducible refine pcall_k (c1) ?_; rintro _ _ ⟨rfl, rfl⟩ -; refine Ev_in ?_)
    | ((refine pcall_midn [] (_ :: HB) [(NA, ⟨23, false, 0, Z⟩)] (by simp) (cw _) ?_; rintro _ H2 ⟨rfl, hB2⟩ nd2; refine Ev_in ?_))
    | (clear hnx nx; with_reducible apply hnx; clear hnx nx)
    | (clear hnx nx; clear hnx nx; with_reducible apply hnx; clear hnx nx)
    | (clear hnx nx; clear hnx nx; clear hnx nx; with_reducible apply hnx; clear hnx nx))
    all_goals first
      | exact rfl
      | (exfalso
         omega)
      | (refine hlp _ (68 - (c + 1)) _ (by omega) ?_ ⟨c + 1, u, H2, by omega, rfl, hul, hull, hB2, nd2, rfl⟩
         refine Wk_fr (by simp only [wkb, Nat.reduceEqDiff, Nat.reduceLT, ↓reduceIte]) ?_
         exact Sub_refl nd2)
  · obtain rfl : c = 68 := by omega
    have k0 := string_c G NB s (by omega) HB hB
    have k1 := hof_c G hG 9 [s] (all_lt1 (by omega)) (by simp)
    have k3 := hof_c G hG 1 [ofH 9 [s]] (all_lt1 (by rw [ofH_len]; omega)) (by simp)
    have hol := leafF_len vals
    rw [show ofH 1 [ofH 9 [s]] = leafF vals by rw [hs]; rfl] at k3
    simp only [List.map_cons, List.map_nil] at k1 k3
    have hql := ofH_len 9 [s]
    generalize leafF vals = f1 at *
    generalize ofH 9 [s] = q at *
    have hone := all_one_byte f1
    have hol2 : (f1.map pbyte).length = 16 := by rw [List.length_map, hol]
    have t3 : List.take 16 (f1.map pbyte) = f1.map pbyte := List.take_of_length_le (by omega)
    have hqo := all_one_byte q
    have hqb := isByte_pb q
    have hqu := unb_pb q
    have hq2 : (q.map pbyte).length = 16 := by rw [List.length_map, hql]
    have tq : List.take 16 (q.map pbyte) = q.map pbyte := List.take_of_length_le (by omega)
    repeat' (first
    | (with_reducible apply W_seq_k; intro nx hnx)
    | (with_reducible first | apply W_block | apply W_scope)
    | (with_reducible refine W_prune 253 ?_; simp only [prb, Nat.reducePow, Nat.reduceDiv, Nat.reduceMod, Nat.reduceBEq]; with_reducible apply W_region_l)
    | (with_reducible refine WL_born (by simp) rfl (by simp) ?_; simp only [elemsOf, nl, List.map_cons, List.map_nil, Nat.reduceEqDiff, ↓reduceIte, List.take_succ_cons, List.take_zero, List.range_succ, List.range_zero, List.nil_append, List.cons_append, List.map_append, List.drop_succ_cons, List.drop_zero, Nat.reduceMul, Nat.zero_mul, Nat.one_mul, Nat.reduceAdd])
    | (with_reducible refine WL_bornH (by simp) (by simp) ?_ ?_ ?_; (· simp [frz, frz1, hnm]); (· simp [frz1, hnm, PV.one, Value.oneCell']); simp only [elemsOf, nl, List.map_cons, List.map_nil, Nat.reduceEqDiff, ↓reduceIte, List.take_succ_cons, List.take_zero, List.range_succ, List.range_zero, List.nil_append, List.cons_append, List.map_append, List.drop_succ_cons, List.drop_zero, Nat.reduceMul, Nat.zero_mul, Nat.one_mul, Nat.reduceAdd])
    | ((first | (with_reducible apply WL_op; intro nx hnx) | with_reducible refine Ev_out ?_ | (with_reducible refine pfresh_k hnm fun nm hnm => ?_; (try simp only [fmb] at hnm)) | (with_reducible refine pborn_im ?_; simp only [elemsOf, nl, List.map_cons, List.map_nil, Nat.reduceEqDiff, ↓reduceIte, List.take_succ_cons, List.take_zero, List.range_succ, List.range_zero, List.nil_append, List.cons_append, List.map_append, List.drop_succ_cons, List.drop_zero, Nat.reduceMul, Nat.zero_mul, Nat.one_mul, Nat.reduceAdd])); try (simp (maxSteps := 2000000) (disch := omega) only [evb, evd, pbuiltin, constPV, pnck, seqK, blockK, scopeK, pbin, pun, ppick, plen, piaddr, pindex, pfield, pslice, pbound, pconv, pelems, pextract, pmm, PV.mem?, PV.one, PV.cells, pageq, peqs, peq1, pmakes, pstore, pbytes, pmark, pusd, pust, psrc, pkey, pkeys, pnile, pcap, pgrow, List.set, Value.cells, ↓popG_eq, ↓pop.eq_1, ↓List.getElem?_map, ↓List.getElem?_cons_zero, ↓List.getElem?_cons_succ, Value.oneCell', Nat.reduceAdd, Nat.reduceMul, Nat.reduceSub, Nat.reduceLeDiff, Nat.reduceEqDiff, ↓reduceIte, ne_eq, reduceCtorEq, forall_const, exists_and_left, exists_eq_left', eq_self, Nat.reduceLT, Int.reduceLT, Int.reduceLE, Int.reduceToNat, Int.reduceAdd, Int.reduceSub, Int.reduceNeg, hnm, Tryd.tf0, Tryd.tf1, Tryd.tf3, Tryd.tf4, Tryd.tf5, Tryd.tf9, Tryd.teq22, Tryd.tf23, Tryd.teq23, Tryd.teq28, Tryd.tf52, Tryd.tf54, Tryd.tf57, Tryd.tf66, Tryd.tf69, Tryd.teq82, Tryd.teq83, Tryd.teq89, Tryd.teq103, Tryd.teq106, Tryd.call25, Tryd.call29, Tryd.call34, hone, hol2, t3, hqo, hqb, hqu, hq2, tq, hZl, hZd, hZo, hZ2]); repeat (refine And.intro (by omega) ?_))
    | ((with_reducible first | apply WL_nil | apply W_label | apply W_skip | apply W_exit | apply W_ret); try simp only [seqK, blockK, scopeK, ↓reduceIte, Nat.reduceEqDiff])
    | (with_reducible apply W_cond_k; intro _ _ ea eb; (simp only [condK, cob, opnd, constPV, Nat.reduceEqDiff, Nat.reduceLT, ↓reduceIte, hcb, reduceCtorEq, forall_const, ne_eq]); subst ea eb; first | (refine ⟨fun hc => ?_, fun hc => ?_⟩ <;> first | (exfalso; omega) | (exfalso; exact hc trivial) | skip) | skip)
    | (with_reducible apply hnx; clear hnx nx)
    | (with_reducible refine And.intro (by omega) ?_)
    | (with_reducible refine And.intro ?_ ?_)
    | (with_reducible refine pcall_k (k1) ?_; rintro _ _ ⟨rfl, rfl⟩ -; refine Ev_in ?_)
    | (with_reducible refine pcall_k (k3) ?_; rintro _ _ ⟨rfl, rfl⟩ -; refine Ev_in ?_)
    | ((refine pcall_midn [] HB [(NA, ⟨23, false, 0, Z⟩)] (by simp) k0 ?_; rintro _ _ ⟨rfl, rfl⟩ nd2; refine Ev_in ?_))
    | (clear hnx nx; with_reducible apply hnx; clear hnx nx)
    | (clear hnx nx; clear hnx nx; with_reducible apply hnx; clear hnx nx)
    | (clear hnx nx; clear hnx nx; clear hnx nx; with_reducible apply hnx; clear hnx nx))
    all_goals first
      | exact rfl
      | (exfalso
         omega)
      | (refine hfin _ _ ?_
         exact Fin_dig (n := NA) (by simp only [fr_getD_cons, Nat.reduceEqDiff, Nat.reduceLT, ↓reduceIte]) (by simp [look, hnm]) hol ⟨rfl, rfl⟩)
end Go.PM

namespace Go.PM
open Go.RowKit
section
variable {P : Program} {G : Globs} {E : Amb} {A : Nat → Prop} {σ : PState} {a : Act} {w : World} {q : Bool}
/-- what comes back from a call to which the objects S were lent -/
theorem Sim.lentS {w' : World} {A' : Nat → Prop} {S : Nat → Prop} {F : List Int} (hs : Sim G E A σ a w) (hS : ∀ b : Nat, S b → ∃ o, ((b : Int), o) ∈ σ.heap)
    (hs' : Sim G ⟨w, fun b => A b ∨ S b, [], F⟩ A' ⟨[], []⟩ ⟨#[], []⟩ w') : Sim G E (fun b => A' b ∧ ¬ S b) σ a w' := by
  have he : Ext (fun _ => False) w w' := hs'.ext.mono (fun x hx => (List.not_mem_nil hx).elim)
  have hm : ∀ b, A b → ¬ False := fun _ _ h => h
  have hA : ∀ b, A b → A' b ∧ ¬ S b := fun b hb => ⟨hs'.a0 b (.inl hb), fun e => by
    obtain ⟨o, ho⟩ := hS b e
    exact (hs.own _ o ho b rfl).2.1 hb⟩
  have hA1 : ∀ b, A' b ∧ ¬ S b → A b ∨ w.heap.size ≤ b := by
    intro b ⟨hb, hn⟩
    rcases hs'.a1 b hb with (h | h) | h
    · exact .inl h
    · exact absurd h hn
    · exact .inr h
  refine ⟨hs.ext.trans he (fun _ _ h => h.elim), fun b hb => hs'.lt b hb.1, fun b hb => hA b (hs.a0 b hb), fun b hb => ?_, fun g => (hs.globs g).ext he hA hm, hs.nodup, fun m o' h => (hs.objs m o' h).ext he hA hm (fun _ _ h => h), fun m o' h b hb => ?_, hs.neg, hs.defers, hs.size, fun i p hp => ?_⟩
  · rcases hA1 b hb with h | h
    · exact hs.a1 b h
    · exact .inr (Nat.le_trans hs.ext.size h)
  · obtain ⟨q1, q2, q3⟩ := hs.own m o' h b hb
    refine ⟨Nat.lt_of_lt_of_le q1 he.size, fun hb' => ?_, q3⟩
    rcases hA1 b hb' with h | h
    · exact q2 h
    · omega
  · obtain ⟨v, hv, hr⟩ := hs.frame i p hp
    exact ⟨v, hv, hr.ext he hA hm⟩
/-- A call by contract to which the objects n and m are lent, to be read: what comes back names no memory. -/
theorem pcall_lend2 {fn : FuncId} {args : List PV} {R : PV → Heap → Prop} {d : Option Tmp} {K : PState → Prop} (n m : Int) (o u : PObj) (hl : look σ.heap n = some o) (hm : look σ.heap m = some u)
    (hc : PCalls P G fn (args.map fun p => frz m u.cells (frz n o.cells p)) [] R)
    (hk : ∀ res Hout, R res Hout → Hout = [] ∧ Flat res ∧ K (PState.put σ d res)) : @pcallI q P G σ d fn args ⟨K⟩ := by
  intro E A a w vals hs hsz hvals
  have hob := hs.objs n o (look_mem hl)
  have hob2 := hs.objs m u (look_mem hm)
  have hA1 : ∀ b, A b → (A b ∨ (b : Int) = n) := fun b h => .inl h
  have hn1 : ∀ b : Nat, n = b → (A b ∨ (b : Int) = n) := fun b h => .inr h.symm
  have hA2 : ∀ b, (A b ∨ (b : Int) = n) → (A b ∨ ((b : Int) = n ∨ (b : Int) = m)) := fun b h => by
    rcases h with h | h
    · exact .inl h
    · exact .inr (.inl h)
  have hn2 : ∀ b : Nat, m = b → (A b ∨ ((b : Int) = n ∨ (b : Int) = m)) := fun b h => .inr (.inr h.symm)
  have hob3 : ObjRep w (fun b => A b ∨ (b : Int) = n) m u := hob2.ext (M := fun _ => False) (Ext.refl _ _) hA1 (fun _ _ h => h) (fun _ _ h => h)
  refine (hc w (fun b => A b ∨ ((b : Int) = n ∨ (b : Int) = m)) (names σ.heap ++ E.F) vals ?_ (fun g => (hs.globs g).mono (fun b h => .inl h) (fun _ _ _ _ h => h) (fun _ _ h => h)) (by simp) (by simp) (by simp) (by rw [List.length_map]; exact hsz) ?_).mono ?_
  · intro b hb
    rcases hb with h | h | h
    · exact hs.lt b h
    · exact (hs.own n o (look_mem hl) b h.symm).1
    · exact (hs.own m u (look_mem hm) b h.symm).1
  · intro i p hp
    rw [List.getElem?_map] at hp
    cases hj : args[i]? with
    | none => rw [hj] at hp; cases hp
    | some p0 =>
      rw [hj] at hp
      cases hp
      obtain ⟨v, hv, hr⟩ := hvals i p0 hj
      exact ⟨v, hv, frz_rep hA2 hn2 hob3 (frz_rep hA1 hn1 hob hr)⟩
  · rintro e w' ⟨v, A', res, Hout, rfl, hR, hr, hs'⟩
    obtain ⟨rfl, hflat, hK⟩ := hk res Hout hR
    have hS : ∀ b : Nat, ((b : Int) = n ∨ (b : Int) = m) → ∃ o, ((b : Int), o) ∈ σ.heap := by
      rintro b (h | h)
      · exact ⟨o, h ▸ look_mem hl⟩
      · exact ⟨u, h ▸ look_mem hm⟩
    exact ⟨v, _, _, rfl, hK, (hs.lentS hS hs').put d (hflat.rep hr), fun _ => keeps_of_sim hs'⟩
end
end Go.PM

namespace Go.PM
open Go.RowKit
/-- The heap, one object turned no more, seen through closures too. -/
def frzD (n : Int) (cells : List PV) (H : Heap) : Heap := (del H n).map fun x => (x.1, { x.2 with cells := x.2.cells.map (frz n cells) })
/-- One object after the other is lent. -/
inductive Lend : List PV → Heap → List PV → Prop
  | done {args args' : List PV} (H : Heap) (h : args = args') : Lend args H args'
  | step {args args' : List PV} {H : Heap} (n : Int) (o : PObj) (hl : look H n = some o) (hone : ∀ x ∈ del H n, ∀ u ∈ x.2.cells, (frz n o.cells u).one = true)
      (h : Lend (args.map (frz n o.cells)) (frzD n o.cells H) args') : Lend args H args'
section
variable {P : Program} {G : Globs} {E : Amb} {A : Nat → Prop} {σ : PState} {a : Act} {w : World} {q : Bool}
theorem ObjRep.frz {n m : Int} {o u : PObj} {A' : Nat → Prop} (hA : ∀ b, A b → A' b) (hn : ∀ b : Nat, n = b → A' b) (ho : ObjRep w A n o) (h : ObjRep w A m u) (hone : ∀ x ∈ u.cells, (PM.frz n o.cells x).one = true) :
    ObjRep w A' m { u with cells := u.cells.map (PM.frz n o.cells) } := by
  rcases h with ⟨g1, g2, g3⟩ | ⟨b, cur, fz, f, rfl, q1, q2, q3, q4⟩ | ⟨b, es, clock, rfl, q1, q2, q3, q5, q6, q4⟩
  · exact .inl ⟨g1, g2, by simp [g3]⟩
  · refine .inr (.inl ⟨b, cur, fz, f, rfl, q1, q2, ⟨q3.1, fun k1 k2 => by simpa using q3.2 k1 k2⟩, fun j v hv => ?_⟩)
    simp only [List.getElem?_map] at hv
    cases hj : u.cells[j]? with
    | none => rw [hj] at hv; cases hv
    | some x =>
      rw [hj] at hv
      cases hv
      exact ⟨(q4 j x hj).1, hone x (List.mem_of_getElem? hj), frz_rep hA hn ho (q4 j x hj).2.2⟩
  · refine .inr (.inr ⟨b, es, clock, rfl, q1, q2, by simp [q3], q5, q6, fun j v hv => ?_⟩)
    simp only [List.getElem?_map] at hv
    cases hj : u.cells[j]? with
    | none => rw [hj] at hv; cases hv
    | some x =>
      rw [hj] at hv
      cases hv
      obtain ⟨e, k, v, r1, rfl, r2, r3⟩ := q4 j x hj
      exact ⟨e, k, v, r1, rfl, r2.mono hA (fun _ _ _ _ h => h) (fun _ _ h => h), r3.mono hA (fun _ _ _ _ h => h) (fun _ _ h => h)⟩
theorem del_mem {n : Int} : ∀ {H : Heap} {x : Int × PObj}, x ∈ del H n → x ∈ H
  | [], x, h => by simp [del] at h
  | y :: H, x, h => by
    obtain ⟨m, o⟩ := y
    simp only [del] at h
    split at h
    · exact .tail _ h
    · rcases List.mem_cons.1 h with h | h
      · exact h ▸ .head _
      · exact .tail _ (del_mem h)
theorem Lend.reps {args args' : List PV} {H : Heap} (h : Lend args H args') : ∀ {A : Nat → Prop} {vals : Array Value}, (∀ n o, (n, o) ∈ H → ObjRep w A n o) →
    (∀ (i : Nat) (p : PV), args[i]? = some p → ∃ v : Value, vals[i]? = some v ∧ Rep w A p v) →
    ∃ A' : Nat → Prop, (∀ b, A b → A' b) ∧ (∀ b, A' b → A b ∨ ∃ o, ((b : Int), o) ∈ H) ∧ args'.length = args.length ∧ ∀ (i : Nat) (p : PV), args'[i]? = some p → ∃ v : Value, vals[i]? = some v ∧ Rep w A' p v := by
  induction h with
  | done H h =>
    intro A vals _ hv
    subst h
    exact ⟨A, fun _ h => h, fun _ h => .inl h, rfl, hv⟩
  | step n o hl hone h ih =>
    rename_i args args' H
    intro A vals ho hv
    have hA : ∀ b, A b → (A b ∨ (b : Int) = n) := fun b h => .inl h
    have hn : ∀ b : Nat, n = b → (A b ∨ (b : Int) = n) := fun b h => .inr h.symm
    have hob := ho n o (look_mem hl)
    obtain ⟨A', a1, a2, a3, a4⟩ := ih (A := fun b => A b ∨ (b : Int) = n) (vals := vals) (by
      intro m u hm
      obtain ⟨⟨m1, u1⟩, h1, e⟩ := List.mem_map.1 hm
      cases e
      exact ObjRep.frz hA hn hob (ho m1 u1 (del_mem h1)) (hone _ h1)) (by
      intro i p hp
      rw [List.getElem?_map] at hp
      cases hj : args[i]? with
      | none => rw [hj] at hp; cases hp
      | some p0 =>
        rw [hj] at hp
        cases hp
        obtain ⟨v, hv1, hr⟩ := hv i p0 hj
        exact ⟨v, hv1, frz_rep hA hn hob hr⟩)
    refine ⟨A', fun b hb => a1 b (.inl hb), fun b hb => ?_, by rw [a3, List.length_map], a4⟩
    rcases a2 b hb with (h | h) | ⟨u, h⟩
    · exact .inl h
    · exact .inr ⟨o, h ▸ look_mem hl⟩
    · obtain ⟨⟨m1, u1⟩, h1, e⟩ := List.mem_map.1 h
      cases e
      exact .inr ⟨u1, del_mem h1⟩
/-- A call by contract to which objects are lent, to be read: what comes back names no memory. -/
theorem pcall_lendL {fn : FuncId} {args : List PV} (args' : List PV) {R : PV → Heap → Prop} {d : Option Tmp} {K : PState → Prop} (hL : Lend args σ.heap args') (hc : PCalls P G fn args' [] R)
    (hk : ∀ res Hout, R res Hout → Hout = [] ∧ Flat res ∧ K (PState.put σ d res)) : @pcallI q P G σ d fn args ⟨K⟩ := by
  intro E A a w vals hs hsz hvals
  obtain ⟨A1, a1, a2, a3, a4⟩ := hL.reps (w := w) (A := A) (vals := vals) hs.objs hvals
  refine (hc w A1 (names σ.heap ++ E.F) vals ?_ (fun g => (hs.globs g).mono a1 (fun _ _ _ _ h => h) (fun _ _ h => h)) (by simp) (by simp) (by simp) (by rw [a3]; exact hsz) a4).mono ?_
  · intro b hb
    rcases a2 b hb with h | ⟨o, h⟩
    · exact hs.lt b h
    · exact (hs.own _ o h b rfl).1
  · rintro e w' ⟨v, A', res, Hout, rfl, hR, hr, hs'⟩
    obtain ⟨rfl, hflat, hK⟩ := hk res Hout hR
    have he : Ext (fun _ => False) w w' := hs'.ext.mono (fun x hx => (List.not_mem_nil hx).elim)
    have hm : ∀ b, A b → ¬ False := fun _ _ h => h
    have hsim : Sim G E A σ a w' := by
      refine ⟨hs.ext.trans he (fun _ _ h => h.elim), fun b hb => Nat.lt_of_lt_of_le (hs.lt b hb) he.size, hs.a0, hs.a1, fun g => (hs.globs g).ext he (fun _ h => h) hm, hs.nodup, fun m o' h => (hs.objs m o' h).ext he (fun _ h => h) hm (fun _ _ h => h), fun m o' h b hb => ?_, hs.neg, hs.defers, hs.size, fun i p hp => ?_⟩
      · obtain ⟨q1, q2, q3⟩ := hs.own m o' h b hb
        exact ⟨Nat.lt_of_lt_of_le q1 he.size, q2, q3⟩
      · obtain ⟨v, hv, hr⟩ := hs.frame i p hp
        exact ⟨v, hv, hr.ext he (fun _ h => h) hm⟩
    exact ⟨v, _, A, rfl, hK, hsim.put d (hflat.rep hr), fun _ => keeps_of_sim hs'⟩
end
end Go.PM

namespace Go.PM
theorem peqs_bytes : ∀ (n : Nat) (d e : List UInt8), d.length = n → e.length = n → peqs (List.replicate n (.int .u8)) (d.map pbyte) (e.map pbyte) = some (decide (d = e))
  | 0, [], [], _, _ => by simp [peqs]
  | n + 1, a :: d, b :: e, h1, h2 => by
    have ih := peqs_bytes n d e (by simpa using h1) (by simpa using h2)
    simp only [List.replicate_succ, List.map_cons, peqs, ih, peq1, if_true]
    congr 1
    have : ((a.toNat : Int) == (b.toNat : Int)) = decide (a = b) := by
      rw [Bool.eq_iff_iff]
      simp only [beq_iff_eq, decide_eq_true_eq]
      exact ⟨fun h => UInt8.toNat_inj.1 (Int.ofNat_inj.1 h), fun h => by rw [h]⟩
    rw [this]
    simp
theorem q16 (a b : List UInt8) (h1 : a.length = 16) (h2 : b.length = 16) : peqs [.int .u8, .int .u8, .int .u8, .int .u8, .int .u8, .int .u8, .int .u8, .int .u8, .int .u8, .int .u8, .int .u8, .int .u8, .int .u8, .int .u8, .int .u8, .int .u8] (a.map pbyte) (b.map pbyte) = some (decide (a = b)) := peqs_bytes 16 a b h1 h2
end Go.PM

namespace Go.PM
open Go.Proofs
attribute [local irreducible] W PCalls pcall pcallI WL
/-- The node with a number at a level. -/
def nodeV (seed : List UInt8) : Nat → Nat → List UInt8
  | 0, k => leafF (topF seed k)
  | l + 1, k => nodeF (nodeV seed l (2 * k)) (nodeV seed l (2 * k + 1))
theorem nodeF_len (a b : List UInt8) : (nodeF a b).length = 16 := ofH_len _ _
theorem nodeV_len (seed : List UInt8) : ∀ l k, (nodeV seed l k).length = 16
  | 0, k => leafF_len _
  | l + 1, k => nodeF_len _ _
/-- A digest. -/
@[reducible] def pdg (x : List UInt8) : PV := .agg (x.map pbyte)
def catD (l : List (List UInt8)) : List PV := l.flatten.map pbyte
/-- The first nodes of a level. -/
def lvD (seed : List UInt8) (l n : Nat) : List (List UInt8) := (List.range n).map (nodeV seed l)
/-- The cells of a level. -/
def lvC (seed : List UInt8) (l n : Nat) : List PV := catD (lvD seed l n)
/-- The levels of a tree, in part. -/
def tbC (seed : List UInt8) (h n : Nat) : List PV := (List.range n).map fun j => .list 16 ((lvD seed j (2 ^ (h - j))).map pdg)
attribute [local irreducible] lvC lvD tbC
theorem shl_op : ∀ h : _root_.Fin 7, IntKind.i64.wrap (1 * 2 ^ min h.val IntKind.i64.bits) = ((2 ^ h.val : Nat) : Int) := by decide +kernel
theorem pow_le64 (h : Nat) (hh : h ≤ 6) : 2 ^ h ≤ 64 := by
  have := Nat.pow_le_pow_right (n := 2) (by omega) hh
  exact this
end Go.PM

namespace Go.PM
open Go.Proofs
attribute [local irreducible] W PCalls pcall pcallI WL
/-- What Public answers. -/
def pubF (seed : List UInt8) (n : Int) : List UInt8 × Int :=
  if seed.length = 32 ∧ 0 ≤ n ∧ n ≤ 6 then (nodeV seed n.toNat 0, 0) else (List.replicate 16 0, 1)
theorem pubF_len (seed : List UInt8) (n : Int) : (pubF seed n).1.length = 16 := by
  unfold pubF
  split
  · exact nodeV_len _ _ _
  · simp
/-- The end of a function whose results are a digest that lies in a cell, and a number. -/
theorem Fin_dig2 {x y : Tmp} {n : Int} {f : List UInt8} {e : PV} {R : PV → Heap → Prop} {σ : PState} (hx : σ.frame.getD x .junk = .ptr n 0) (hl : look σ.heap n = some ⟨23, false, 0, f.map pbyte⟩) (hf : f.length = 16)
    (hy : σ.frame.getD y .junk = e) (h3 : R (.tuple [.agg (f.map pbyte), e]) []) : Fin Tryd.prog [.cell x 23, .tmp y] R .ret σ := by
  have hone := all_one_byte f
  have htk : List.take 16 (f.map pbyte) = f.map pbyte := List.take_of_length_le (by rw [List.length_map]; omega)
  refine Fin_ret (H := []) (show PResult Tryd.prog σ [.cell x 23, .tmp y] (.tuple [.agg (f.map pbyte), e]) from ⟨[.agg (f.map pbyte), e], ⟨?_, hy.symm, trivial⟩, rfl⟩) (Sub_nil _) h3
  show PRes Tryd.prog σ (.cell x 23) (.agg (f.map pbyte))
  simp only [PRes, Tryd.tf23, hx, hl]
  simp [pload, hf, htk, hone]
end Go.PM

namespace Go.PM
open Go.Proofs
attribute [local irreducible] W PCalls pcall pcallI WL
def seC (c : UInt8) (i : Nat) : List PV := List.replicate i (pbyte c) ++ List.replicate (32 - i) (pint .u8 0)
theorem seC_len {c : UInt8} {i : Nat} (h : i ≤ 32) : (seC c i).length = 32 := by simp [seC]; omega
theorem seC_zero (c : UInt8) : seC c 0 = List.replicate 32 (pint .u8 0) := rfl
theorem seC_full (c : UInt8) : seC c 32 = (List.replicate 32 c).map pbyte := by simp [seC]
theorem seC_put {c : UInt8} {i : Nat} (h : i < 32) : List.take i (seC c i) ++ [pbyte c] ++ List.drop (i + 1) (seC c i) = seC c (i + 1) := by
  obtain ⟨m, hm⟩ : ∃ m, 32 - i = m + 1 := ⟨32 - i - 1, by omega⟩
  have hl : (List.replicate i (pbyte c)).length = i := by simp
  rw [seC, seC, hm, show 32 - (i + 1) = m by omega, List.take_append_of_le_length (by omega), List.take_of_length_le (by omega), List.drop_append, hl, List.drop_of_length_le (by omega), show i + 1 - i = 1 by omega, List.replicate_succ, List.replicate_succ']
  simp
attribute [local irreducible] seC
set_option maxRecDepth 100000 in
set_option maxHeartbeats 8000000 in
theorem seed_c (G : Globs) (c : UInt8) : PCalls Tryd.prog G 20 [pbyte c] [] (fun res H => res = pstr (List.replicate 32 c) ∧ H = []) := by
  (refine PCalls_f Tryd.func20 rfl Tryd.ntmps20 Tryd.results20 (by simp) fun fin hfin => ?_; have hnm : True := trivial; simp (maxSteps := 2000000) (disch := omega) only [evb, evd, pbuiltin, constPV, pnck, seqK, blockK, scopeK, pbin, pun, ppick, plen, piaddr, pindex, pfield, pslice, pbound, pconv, pelems, pextract, pmm, PV.mem?, PV.one, PV.cells, pageq, peqs, peq1, pmakes, pstore, pbytes, pmark, pusd, pust, psrc, pkey, pkeys, pnile, pcap, pgrow, List.set, Value.cells, ↓popG_eq, ↓pop.eq_1, ↓List.getElem?_map, ↓List.getElem?_cons_zero, ↓List.getElem?_cons_succ, Value.oneCell', Nat.reduceAdd, Nat.reduceMul, Nat.reduceSub, Nat.reduceLeDiff, Nat.reduceEqDiff, ↓reduceIte, ne_eq, reduceCtorEq, forall_const, exists_and_left, exists_eq_left', eq_self, Nat.reduceLT, Int.reduceLT, Int.reduceLE, Int.reduceToNat, Int.reduceAdd, Int.reduceSub, Int.reduceNeg, hnm, Tryd.tf0, Tryd.tf3, Tryd.tf4, Tryd.tf5, Tryd.tf9, Tryd.teq22, Tryd.teq23, Tryd.teq28, Tryd.tf52, Tryd.teq82, Tryd.teq83, Tryd.teq89, Tryd.teq103, Tryd.teq106])
  repeat' (first
    | (with_reducible apply W_seq_k; intro nx hnx)
    | (with_reducible first | apply W_block | apply W_scope)
    | (with_reducible refine W_prune 29 ?_; simp only [prb, Nat.reducePow, Nat.reduceDiv, Nat.reduceMod, Nat.reduceBEq]; with_reducible apply W_region_l)
    | ((first | (with_reducible apply WL_op; intro nx hnx) | with_reducible refine Ev_out ?_ | (with_reducible refine pfresh_k hnm fun nm hnm => ?_; (try simp only [fmb] at hnm)) | (with_reducible refine pborn_mu hnm fun nm hnm => ?_; (try simp only [fmb] at hnm))); try (simp (maxSteps := 2000000) (disch := omega) only [evb, evd, pbuiltin, constPV, pnck, seqK, blockK, scopeK, pbin, pun, ppick, plen, piaddr, pindex, pfield, pslice, pbound, pconv, pelems, pextract, pmm, PV.mem?, PV.one, PV.cells, pageq, peqs, peq1, pmakes, pstore, pbytes, pmark, pusd, pust, psrc, pkey, pkeys, pnile, pcap, pgrow, List.set, Value.cells, ↓popG_eq, ↓pop.eq_1, ↓List.getElem?_map, ↓List.getElem?_cons_zero, ↓List.getElem?_cons_succ, Value.oneCell', Nat.reduceAdd, Nat.reduceMul, Nat.reduceSub, Nat.reduceLeDiff, Nat.reduceEqDiff, ↓reduceIte, ne_eq, reduceCtorEq, forall_const, exists_and_left, exists_eq_left', eq_self, Nat.reduceLT, Int.reduceLT, Int.reduceLE, Int.reduceToNat, Int.reduceAdd, Int.reduceSub, Int.reduceNeg, hnm, Tryd.tf0, Tryd.tf3, Tryd.tf4, Tryd.tf5, Tryd.tf9, Tryd.teq22, Tryd.teq23, Tryd.teq28, Tryd.tf52, Tryd.teq82, Tryd.teq83, Tryd.teq89, Tryd.teq103, Tryd.teq106]); repeat (refine And.intro (by omega) ?_))
    | ((with_reducible first | apply WL_nil | apply W_label | apply W_skip | apply W_exit | apply W_ret); try simp only [seqK, blockK, scopeK, ↓reduceIte, Nat.reduceEqDiff])
    | (with_reducible apply W_cond_k; intro _ _ ea eb; (simp only [condK, cob, opnd, constPV, Nat.reduceEqDiff, Nat.reduceLT, ↓reduceIte, hcb, reduceCtorEq, forall_const, ne_eq]); subst ea eb; first | (refine ⟨fun hc => ?_, fun hc => ?_⟩ <;> first | (exfalso; omega) | (exfalso; exact hc trivial) | skip) | skip)
    | (with_reducible apply hnx; clear hnx nx)
    | (with_reducible refine And.intro (by omega) ?_)
    | (with_reducible refine And.intro ?_ ?_)
    | (clear hnx nx; with_reducible apply hnx; clear hnx nx)
    | (clear hnx nx; clear hnx nx; with_reducible apply hnx; clear hnx nx)
    | (clear hnx nx; clear hnx nx; clear hnx nx; with_reducible apply hnx; clear hnx nx))
  obtain ⟨N, hN⟩ : ∃ N, N = nm := ⟨_, rfl⟩
  subst hN
  refine W_loop_k (fun z τ => ∃ i : Nat, i ≤ 32 ∧ z = 32 - i ∧ τ = ⟨fr 16 [(4, pint .i64 i), (3, .row N 1 32), (0, pbyte c)], [(N, ⟨5, true, 1, seC c i⟩)]⟩) 32
    ⟨fr 16 [(4, pint .i64 (0 : Nat)), (3, .row N 1 32), (0, pbyte c)], [(N, ⟨5, true, 1, seC c 0⟩)]⟩ (by
    rw [seC_zero]
    refine Wk_fr (by simp only [wkb, Nat.reduceEqDiff, Nat.reduceLT, ↓reduceIte]) ?_
    exact Sub_refl (by simp [names])) ⟨0, by omega, by omega, rfl⟩ ?_
  rintro z τ ⟨i, hi, rfl, rfl⟩ lp hlp
  have hl := seC_len (c := c) hi
  by_cases hlt : i < 32
  · have hput := seC_put (c := c) hlt
    repeat' (first
    | (with_reducible apply W_seq_k; intro nx hnx)
    | (with_reducible first | apply W_block | apply W_scope)
    | (with_reducible refine W_prune 29 ?_; simp only [prb, Nat.reducePow, Nat.reduceDiv, Nat.reduceMod, Nat.reduceBEq]; with_reducible apply W_region_l)
    | ((first | (with_reducible apply WL_op; intro nx hnx) | with_reducible refine Ev_out ?_ | (with_reducible refine pfresh_k hnm fun nm hnm => ?_; (try simp only [fmb] at hnm)) | (with_reducible refine pborn_mu hnm fun nm hnm => ?_; (try simp only [fmb] at hnm))); try (simp (maxSteps := 2000000) (disch := omega) only [evb, evd, pbuiltin, constPV, pnck, seqK, blockK, scopeK, pbin, pun, ppick, plen, piaddr, pindex, pfield, pslice, pbound, pconv, pelems, pextract, pmm, PV.mem?, PV.one, PV.cells, pageq, peqs, peq1, pmakes, pstore, pbytes, pmark, pusd, pust, psrc, pkey, pkeys, pnile, pcap, pgrow, List.set, Value.cells, ↓popG_eq, ↓pop.eq_1, ↓List.getElem?_map, ↓List.getElem?_cons_zero, ↓List.getElem?_cons_succ, Value.oneCell', Nat.reduceAdd, Nat.reduceMul, Nat.reduceSub, Nat.reduceLeDiff, Nat.reduceEqDiff, ↓reduceIte, ne_eq, reduceCtorEq, forall_const, exists_and_left, exists_eq_left', eq_self, Nat.reduceLT, Int.reduceLT, Int.reduceLE, Int.reduceToNat, Int.reduceAdd, Int.reduceSub, Int.reduceNeg, hnm, Tryd.tf0, Tryd.tf3, Tryd.tf4, Tryd.tf5, Tryd.tf9, Tryd.teq22, Tryd.teq23, Tryd.teq28, Tryd.tf52, Tryd.teq82, Tryd.teq83, Tryd.teq89, Tryd.teq103, Tryd.teq106, hl, hput]); repeat (refine And.intro (by omega) ?_))
    | ((with_reducible first | apply WL_nil | apply W_label | apply W_skip | apply W_exit | apply W_ret); try simp only [seqK, blockK, scopeK, ↓reduceIte, Nat.reduceEqDiff])
    | (with_reducible apply W_cond_k; intro _ _ ea eb; (simp only [condK, cob, opnd, constPV, Nat.reduceEqDiff, Nat.reduceLT, ↓reduceIte, hcb, reduceCtorEq, forall_const, ne_eq]); subst ea eb; first | (refine ⟨fun hc => ?_, fun hc => ?_⟩ <;> first | (exfalso; omega) | (exfalso; exact hc trivial) | skip) | skip)
    | (with_reducible apply hnx; clear hnx nx)
    | (with_reducible refine And.intro (by omega) ?_)
    | (with_reducible refine And.intro ?_ ?_)
    | (clear hnx nx; with_reducible apply hnx; clear hnx nx)
    | (clear hnx nx; clear hnx nx; with_reducible apply hnx; clear hnx nx)
    | (clear hnx nx; clear hnx nx; clear hnx nx; with_reducible apply hnx; clear hnx nx))
    all_goals first
      | exact rfl
      | (exfalso
         omega)
      | (refine hlp _ (32 - (i + 1)) _ (by omega) ?_ ⟨i + 1, by omega, rfl, rfl⟩
         refine Wk_fr (by simp only [wkb, Nat.reduceEqDiff, Nat.reduceLT, ↓reduceIte]) ?_
         exact Sub_refl (by simp [names]))
  · obtain rfl : i = 32 := by omega
    have hfull := seC_full c
    have hrl : (List.replicate 32 c).length = 32 := by simp
    rw [hfull] at hl ⊢
    generalize List.replicate 32 c = s at *
    have b1 := isByte_pb s
    have b2 := unb_pb s
    have tk : List.take 32 (s.map pbyte) = s.map pbyte := List.take_of_length_le (by omega)
    repeat' (first
    | (with_reducible apply W_seq_k; intro nx hnx)
    | (with_reducible first | apply W_block | apply W_scope)
    | (with_reducible refine W_prune 29 ?_; simp only [prb, Nat.reducePow, Nat.reduceDiv, Nat.reduceMod, Nat.reduceBEq]; with_reducible apply W_region_l)
    | ((first | (with_reducible apply WL_op; intro nx hnx) | with_reducible refine Ev_out ?_ | (with_reducible refine pfresh_k hnm fun nm hnm => ?_; (try simp only [fmb] at hnm)) | (with_reducible refine pborn_mu hnm fun nm hnm => ?_; (try simp only [fmb] at hnm))); try (simp (maxSteps := 2000000) (disch := omega) only [evb, evd, pbuiltin, constPV, pnck, seqK, blockK, scopeK, pbin, pun, ppick, plen, piaddr, pindex, pfield, pslice, pbound, pconv, pelems, pextract, pmm, PV.mem?, PV.one, PV.cells, pageq, peqs, peq1, pmakes, pstore, pbytes, pmark, pusd, pust, psrc, pkey, pkeys, pnile, pcap, pgrow, List.set, Value.cells, ↓popG_eq, ↓pop.eq_1, ↓List.getElem?_map, ↓List.getElem?_cons_zero, ↓List.getElem?_cons_succ, Value.oneCell', Nat.reduceAdd, Nat.reduceMul, Nat.reduceSub, Nat.reduceLeDiff, Nat.reduceEqDiff, ↓reduceIte, ne_eq, reduceCtorEq, forall_const, exists_and_left, exists_eq_left', eq_self, Nat.reduceLT, Int.reduceLT, Int.reduceLE, Int.reduceToNat, Int.reduceAdd, Int.reduceSub, Int.reduceNeg, hnm, Tryd.tf0, Tryd.tf3, Tryd.tf4, Tryd.tf5, Tryd.tf9, Tryd.teq22, Tryd.teq23, Tryd.teq28, Tryd.tf52, Tryd.teq82, Tryd.teq83, Tryd.teq89, Tryd.teq103, Tryd.teq106, hl, b1, b2, tk]); repeat (refine And.intro (by omega) ?_))
    | ((with_reducible first | apply WL_nil | apply W_label | apply W_skip | apply W_exit | apply W_ret); try simp only [seqK, blockK, scopeK, ↓reduceIte, Nat.reduceEqDiff])
    | (with_reducible apply W_cond_k; intro _ _ ea eb; (simp only [condK, cob, opnd, constPV, Nat.reduceEqDiff, Nat.reduceLT, ↓reduceIte, hcb, reduceCtorEq, forall_const, ne_eq]); subst ea eb; first | (refine ⟨fun hc => ?_, fun hc => ?_⟩ <;> first | (exfalso; omega) | (exfalso; exact hc trivial) | skip) | skip)
    | (with_reducible apply hnx; clear hnx nx)
    | (with_reducible refine And.intro (by omega) ?_)
    | (with_reducible refine And.intro ?_ ?_)
    | (clear hnx nx; with_reducible apply hnx; clear hnx nx)
    | (clear hnx nx; clear hnx nx; with_reducible apply hnx; clear hnx nx)
    | (clear hnx nx; clear hnx nx; clear hnx nx; with_reducible apply hnx; clear hnx nx))
    all_goals first
      | exact rfl
      | (exfalso
         omega)
      | (refine hfin _ _ (Fin_ret1 rfl (Sub_nil _) ?_); simp only [List.getD_cons_zero, List.getD_cons_succ, fr_getD_cons, fr_getD_nil, Nat.reduceEqDiff, Nat.reduceLT, ↓reduceIte]; first | trivial | exact ⟨rfl, by trivial⟩ | (simp; done) | (simp; omega))
end Go.PM

namespace Go.PM
open Go.Proofs
attribute [local irreducible] W PCalls pcall pcallI WL
/-- The neighbour of a node. -/
def sib (i : Nat) : Nat := if i % 2 = 1 then i - 1 else i + 1
/-- What a signature tells of a chain. -/
def sigV (seed : List UInt8) (i : Int) (dg : List Nat) (c : Nat) : List UInt8 := advF i c 0 ((dg.getD c 0 : Nat) - 0 : Int).toNat (startF seed i c)
theorem sigV_len (seed : List UInt8) (i : Int) (dg : List Nat) (c : Nat) : (sigV seed i dg c).length = 16 := advF_len _ _ _ _ _ (startF_len _ _ _)
/-- The neighbours on the way to the root. -/
def patV (seed : List UInt8) (i l : Nat) : List UInt8 := nodeV seed l (sib (i / 2 ^ l))
theorem patV_len (seed : List UInt8) (i l : Nat) : (patV seed i l).length = 16 := nodeV_len _ _ _
/-- A signature that is made. -/
def sigT (seed : List UInt8) (h i : Nat) (m : List UInt8) : List UInt8 :=
  intB i ++ catF (sigV seed i (digF (digestF (nodeV seed h 0) i m))) 68 ++ catF (patV seed i) h
/-- What Sign answers. -/
def signF (seed : List UInt8) (n i : Int) (m : List UInt8) : List UInt8 × Int :=
  if ¬ (seed.length = 32 ∧ 0 ≤ n ∧ n ≤ 6) then ([], 1) else if i < 0 ∨ 2 ^ n.toNat ≤ i then ([], 23) else (sigT seed n.toNat i.toNat m, 0)
theorem digF_get (d : List UInt8) (c : Nat) (h : c < 68) : ((digF d).map pn')[c]? = some (pint .i64 ((digF d).getD c 0 : Nat)) := by
  rw [List.getElem?_map, List.getD_eq_getElem?_getD, List.getElem?_eq_getElem (by rw [digF_len]; exact h)]
  rfl
theorem digF_lt (d : List UInt8) (c : Nat) : (digF d).getD c 0 < 4 := by
  rw [List.getD_eq_getElem?_getD]
  cases h : (digF d)[c]? with
  | none => simp
  | some x =>
    have hm := List.mem_of_getElem? h
    simp only [digF, List.mem_append, List.mem_map, chk, List.mem_cons, List.not_mem_nil, or_false] at hm
    simp only [Option.getD_some]
    rcases hm with ⟨j, _, rfl⟩ | rfl | rfl | rfl | rfl
    · exact dig_lt _ _
    all_goals omega
end Go.PM

namespace Go.PM
open Go.Proofs
/-- A digest out of a signature's rest. -/
def restV (rest : List UInt8) (k : Nat) : List UInt8 := (rest.drop (16 * k)).take 16
theorem restV_len {rest : List UInt8} {n k : Nat} (h : rest.length = n * 16) (hk : k < n) : (restV rest k).length = 16 := by
  rw [restV, List.length_take, List.length_drop, h]
  have : k + 1 ≤ n := hk
  have := Nat.mul_le_mul_right 16 this
  omega
/-- The top of a chain, from where the signature has it. -/
def vfV (i : Int) (dg : List Nat) (rest : List UInt8) (c : Nat) : List UInt8 := advF i c (dg.getD c 0 : Nat) (3 - (dg.getD c 0 : Nat) : Int).toNat (restV rest c)
/-- The way from a leaf to the root. -/
def wayF (rest : List UInt8) (i : Nat) (v : List UInt8) : Nat → List UInt8
  | 0 => v
  | l + 1 => if (i / 2 ^ l) % 2 = 1 then nodeF (restV rest (68 + l)) (wayF rest i v l) else nodeF (wayF rest i v l) (restV rest (68 + l))
theorem wayF_len (rest : List UInt8) (i : Nat) (v : List UInt8) (hv : v.length = 16) : ∀ l, (wayF rest i v l).length = 16
  | 0 => hv
  | l + 1 => by
    rw [wayF]
    split <;> exact nodeF_len _ _
/-- The root that a signature leads to. -/
def rootF (p : List UInt8) (h i : Nat) (m rest : List UInt8) : List UInt8 := wayF rest i (leafF (vfV i (digF (digestF p i m)) rest)) h
/-- What Verify answers. -/
def verF (p : List UInt8) (n : Int) (m s : List UInt8) : Int × Int :=
  if ¬ (0 ≤ n ∧ n ≤ 6) then (0, 1) else if (gI s).2.2 ≠ 0 then (0, (gI s).2.2) else
  if (gI s).1 < 0 ∨ 2 ^ n.toNat ≤ (gI s).1 ∨ (s.drop (gI s).2.1).length ≠ (68 + n.toNat) * 16 then (0, 2) else
  if rootF p n.toNat (gI s).1.toNat m (s.drop (gI s).2.1) = p then ((gI s).1, 0) else (0, 10)
/-- A signature that is made leads to the root of the tree. -/
theorem advF_adv (i c : Int) : ∀ (a b : Nat) (t : Int) (v : List UInt8), advF i c (t + a) b (advF i c t a v) = advF i c t (a + b) v
  | 0, b, t, v => by
    rw [advF, Nat.zero_add]
    congr 1
    omega
  | a + 1, b, t, v => by
    rw [show a + 1 + b = (a + b) + 1 by omega, advF, advF, ← advF_adv i c a b (t + 1) (stepC i c t v)]
    congr 1
    omega
end Go.PM

namespace Go.PM
open Go.Proofs
attribute [local irreducible] W PCalls pcall pcallI WL
set_option maxRecDepth 100000 in
set_option maxHeartbeats 8000000 in
theorem value_c (G : Globs) (r : List UInt8) (n : Nat) (hr : r.length = n * 16) (hn : n ≤ 1000) (k : Nat) (hk : k < n) :
    PCalls Tryd.prog G 37 [pint .i64 k, .iptr [.list 1 (r.map pbyte)] 0] [] (fun res H => res = .agg ((restV r k).map pbyte) ∧ H = []) := by
  have hvl := restV_len hr hk
  have e1 : List.drop (16 * k) (List.take (16 * (k + 1)) (r.map pbyte)) = (restV r k).map pbyte := by
    rw [restV, List.map_take, List.map_drop, List.drop_take, show 16 * (k + 1) - 16 * k = 16 by omega]
  have hml : (r.map pbyte).length = n * 16 := by rw [List.length_map, hr]
  generalize restV r k = x at *
  have hxl : (x.map pbyte).length = 16 := by rw [List.length_map, hvl]
  have tx : List.take 16 (x.map pbyte) = x.map pbyte := List.take_of_length_le (by omega)
  have hxo := all_one_byte x
  have f1 : ((k : Int) * 16).toNat = 16 * k := by omega
  have f2 : (((k : Int) + 1) * 16).toNat = 16 * (k + 1) := by omega
  (refine PCalls_f Tryd.func37 rfl Tryd.ntmps37 Tryd.results37 (by simp) fun fin hfin => ?_; have hnm : True := trivial; simp (maxSteps := 2000000) (disch := omega) only [evb, evd, pbuiltin, constPV, pnck, seqK, blockK, scopeK, pbin, pun, ppick, plen, piaddr, pindex, pfield, pslice, pbound, pconv, pelems, pextract, pmm, PV.mem?, PV.one, PV.cells, pageq, peqs, peq1, pmakes, pstore, pbytes, pmark, pusd, pust, psrc, pkey, pkeys, pnile, pcap, pgrow, List.set, Value.cells, ↓popG_eq, ↓pop.eq_1, ↓List.getElem?_map, ↓List.getElem?_cons_zero, ↓List.getElem?_cons_succ, Value.oneCell', Nat.reduceAdd, Nat.reduceMul, Nat.reduceSub, Nat.reduceLeDiff, Nat.reduceEqDiff, ↓reduceIte, ne_eq, reduceCtorEq, forall_const, exists_and_left, exists_eq_left', eq_self, Nat.reduceLT, Int.reduceLT, Int.reduceLE, Int.reduceToNat, Int.reduceAdd, Int.reduceSub, Int.reduceNeg, hnm, Tryd.tf0, Tryd.tf3, Tryd.tf5, Tryd.teq22, Tryd.tf23, Tryd.teq23, Tryd.teq28, Tryd.tf52, Tryd.teq82, Tryd.teq83, Tryd.teq89, Tryd.teq103, Tryd.teq106])
  repeat' (first
    | (with_reducible apply W_seq_k; intro nx hnx)
    | (with_reducible first | apply W_block | apply W_scope)
    | (with_reducible refine W_prune 11 ?_; simp only [prb, Nat.reducePow, Nat.reduceDiv, Nat.reduceMod, Nat.reduceBEq]; with_reducible apply W_region_l)
    | ((first | (with_reducible apply WL_op; intro nx hnx) | with_reducible refine Ev_out ?_ | (with_reducible refine pfresh_k hnm fun nm hnm => ?_; (try simp only [fmb] at hnm)) | (with_reducible refine pborn_mu hnm fun nm hnm => ?_; (try simp only [fmb] at hnm))); try (simp (maxSteps := 2000000) (disch := omega) only [evb, evd, pbuiltin, constPV, pnck, seqK, blockK, scopeK, pbin, pun, ppick, plen, piaddr, pindex, pfield, pslice, pbound, pconv, pelems, pextract, pmm, PV.mem?, PV.one, PV.cells, pageq, peqs, peq1, pmakes, pstore, pbytes, pmark, pusd, pust, psrc, pkey, pkeys, pnile, pcap, pgrow, List.set, Value.cells, ↓popG_eq, ↓pop.eq_1, ↓List.getElem?_map, ↓List.getElem?_cons_zero, ↓List.getElem?_cons_succ, Value.oneCell', Nat.reduceAdd, Nat.reduceMul, Nat.reduceSub, Nat.reduceLeDiff, Nat.reduceEqDiff, ↓reduceIte, ne_eq, reduceCtorEq, forall_const, exists_and_left, exists_eq_left', eq_self, Nat.reduceLT, Int.reduceLT, Int.reduceLE, Int.reduceToNat, Int.reduceAdd, Int.reduceSub, Int.reduceNeg, hnm, Tryd.tf0, Tryd.tf3, Tryd.tf5, Tryd.teq22, Tryd.tf23, Tryd.teq23, Tryd.teq28, Tryd.tf52, Tryd.teq82, Tryd.teq83, Tryd.teq89, Tryd.teq103, Tryd.teq106, hml, hxl, tx, hxo, e1, f1, f2, flat_pb]); repeat (refine And.intro (by omega) ?_))
    | ((with_reducible first | apply WL_nil | apply W_label | apply W_skip | apply W_exit | apply W_ret); try simp only [seqK, blockK, scopeK, ↓reduceIte, Nat.reduceEqDiff])
    | (with_reducible apply W_cond_k; intro _ _ ea eb; (simp only [condK, cob, opnd, constPV, Nat.reduceEqDiff, Nat.reduceLT, ↓reduceIte, hcb, reduceCtorEq, forall_const, ne_eq]); subst ea eb; first | (refine ⟨fun hc => ?_, fun hc => ?_⟩ <;> first | (exfalso; omega) | (exfalso; exact hc trivial) | skip) | skip)
    | (with_reducible apply hnx; clear hnx nx)
    | (with_reducible refine And.intro (by omega) ?_)
    | (with_reducible refine And.intro ?_ ?_)
    | (clear hnx nx; with_reducible apply hnx; clear hnx nx)
    | (clear hnx nx; clear hnx nx; with_reducible apply hnx; clear hnx nx)
    | (clear hnx nx; clear hnx nx; clear hnx nx; with_reducible apply hnx; clear hnx nx))
  all_goals first
    | exact rfl
    | (exfalso
       omega)
    | (refine hfin _ _ ?_
       exact Fin_dig (n := nm) (by simp only [fr_getD_cons, Nat.reduceEqDiff, Nat.reduceLT, ↓reduceIte]) (by simp [look, hnm]) hvl ⟨rfl, rfl⟩)
set_option maxRecDepth 100000 in
set_option maxHeartbeats 8000000 in
theorem chain_c (G : Globs) (hG : G 1 = .iptr (KS.map pw) 0) (r : List UInt8) (n : Nat) (hr : r.length = n * 16) (hn : n ≤ 1000) (hn2 : 68 ≤ n) (k : Int) (hk : inR k) (d : List UInt8) (c : Nat) (hc : c < 68) :
    PCalls Tryd.prog G 39 [pint .i64 c, .iptr [pint .i64 k] 0, .iptr [.list 1 ((digF d).map pn')] 0, .iptr [.func 37 [.iptr [.list 1 (r.map pbyte)] 0]] 0] []
      (fun res H => res = .agg ((vfV k (digF d) r c).map pbyte) ∧ H = []) := by
  have hcR : inR (c : Int) := ⟨by omega, by omega⟩
  have hg := digF_get d c hc
  have hgl := digF_lt d c
  have hqn := digF_len d
  generalize digF d = q at *
  have hg3 : (q.map pn').getD c PV.junk = pint .i64 (q.getD c 0 : Nat) := by rw [List.getD_eq_getElem?_getD, hg]; rfl
  have hq2 : (q.map pn').length = 68 := by rw [List.length_map, hqn]
  have d1 := value_c G r n hr hn c (by omega)
  have d2 := adv_c G hG k c (q.getD c 0 : Nat) 3 (restV r c) hk hcR (by omega) (by omega) (by omega) (by omega) (restV_len hr (by omega))
  rw [show advF k c (q.getD c 0 : Nat) (3 - ((q.getD c 0 : Nat) : Int)).toNat (restV r c) = vfV k q r c from rfl] at d2
  have hvl : (vfV k q r c).length = 16 := advF_len _ _ _ _ _ (restV_len hr (by omega))
  generalize vfV k q r c = x at *
  generalize restV r c = y0 at *
  generalize q.getD c 0 = x0 at *
  have hxl : (x.map pbyte).length = 16 := by rw [List.length_map, hvl]
  have tx : List.take 16 (x.map pbyte) = x.map pbyte := List.take_of_length_le (by omega)
  have hxo := all_one_byte x
  have hca : callable Tryd.prog 37 = true := by kernel_rfl
  (refine PCalls_f Tryd.func39 rfl Tryd.ntmps39 Tryd.results39 (by simp) fun fin hfin => ?_; have hnm : True := trivial; simp (maxSteps := 2000000) (disch := omega) only [evb, evd, pbuiltin, constPV, pnck, seqK, blockK, scopeK, pbin, pun, ppick, plen, piaddr, pindex, pfield, pslice, pbound, pconv, pelems, pextract, pmm, PV.mem?, PV.one, PV.cells, pageq, peqs, peq1, pmakes, pstore, pbytes, pmark, pusd, pust, psrc, pkey, pkeys, pnile, pcap, pgrow, List.set, Value.cells, ↓popG_eq, ↓pop.eq_1, ↓List.getElem?_map, ↓List.getElem?_cons_zero, ↓List.getElem?_cons_succ, Value.oneCell', Nat.reduceAdd, Nat.reduceMul, Nat.reduceSub, Nat.reduceLeDiff, Nat.reduceEqDiff, ↓reduceIte, ne_eq, reduceCtorEq, forall_const, exists_and_left, exists_eq_left', eq_self, Nat.reduceLT, Int.reduceLT, Int.reduceLE, Int.reduceToNat, Int.reduceAdd, Int.reduceSub, Int.reduceNeg, hnm, Tryd.tf0, Tryd.tf3, Tryd.tf5, Tryd.teq22, Tryd.tf23, Tryd.teq23, Tryd.tf25, Tryd.teq28, Tryd.tf69, Tryd.teq82, Tryd.teq83, Tryd.teq89, Tryd.teq103, Tryd.teq106, Tryd.call27])
  repeat' (first
    | (with_reducible apply W_seq_k; intro nx hnx)
    | (with_reducible first | apply W_block | apply W_scope)
    | (with_reducible refine W_prune 47 ?_; simp only [prb, Nat.reducePow, Nat.reduceDiv, Nat.reduceMod, Nat.reduceBEq]; first | (with_reducible apply W_region_l) | with_reducible refine W_region_draw (id := 1) 3 (.op 0 true (.op 1 true (.op 2 true (.op 3 true (.op 4 true (.op 5 true (.op 6 true (.op 7 true (.op 8 true (.op 9 false (.op 10 false (.done)))))))))))) (by kernel_rfl) ?_)
    | ((first | (with_reducible apply WL_op; intro nx hnx) | with_reducible refine Ev_out ?_ | (with_reducible apply popsD_op; intro nx hnx) | (with_reducible refine popsD_alt ?_ ?_; intro nx hnx) | (with_reducible refine pfresh_k hnm fun nm hnm => ?_; (try simp only [fmb] at hnm)) | (with_reducible refine pborn_mu hnm fun nm hnm => ?_; (try simp only [fmb] at hnm))); try (simp (maxSteps := 2000000) (disch := omega) only [evb, evd, pbuiltin, constPV, pnck, seqK, blockK, scopeK, pbin, pun, ppick, plen, piaddr, pindex, pfield, pslice, pbound, pconv, pelems, pextract, pmm, PV.mem?, PV.one, PV.cells, pageq, peqs, peq1, pmakes, pstore, pbytes, pmark, pusd, pust, psrc, pkey, pkeys, pnile, pcap, pgrow, List.set, Value.cells, ↓popG_eq, ↓pop.eq_1, ↓List.getElem?_map, ↓List.getElem?_cons_zero, ↓List.getElem?_cons_succ, Value.oneCell', Nat.reduceAdd, Nat.reduceMul, Nat.reduceSub, Nat.reduceLeDiff, Nat.reduceEqDiff, ↓reduceIte, ne_eq, reduceCtorEq, forall_const, exists_and_left, exists_eq_left', eq_self, Nat.reduceLT, Int.reduceLT, Int.reduceLE, Int.reduceToNat, Int.reduceAdd, Int.reduceSub, Int.reduceNeg, hnm, Tryd.tf0, Tryd.tf3, Tryd.tf5, Tryd.teq22, Tryd.tf23, Tryd.teq23, Tryd.tf25, Tryd.teq28, Tryd.tf69, Tryd.teq82, Tryd.teq83, Tryd.teq89, Tryd.teq103, Tryd.teq106, Tryd.call27, hca, hg, hg3, hq2, hxl, tx, hxo]); repeat (refine And.intro (by omega) ?_))
    | ((with_reducible first | apply WL_nil | apply W_label | apply W_skip | apply W_exit | apply W_ret | apply popsD_done); try simp only [seqK, blockK, scopeK, ↓reduceIte, Nat.reduceEqDiff])
    | with_reducible exact popsD_stop
    | (with_reducible apply W_cond_k; intro _ _ ea eb; (simp only [condK, cob, opnd, constPV, Nat.reduceEqDiff, Nat.reduceLT, ↓reduceIte, hcb, reduceCtorEq, forall_const, ne_eq]); subst ea eb; first | (refine ⟨fun hc => ?_, fun hc => ?_⟩ <;> first | (exfalso; omega) | (exfalso; exact hc trivial) | skip) | skip)
    | (with_reducible apply hnx; clear hnx nx)
    | (with_reducible refine And.intro (by omega) ?_)
    | (with_reducible refine And.intro ?_ ?_)
    | (with_reducible refine pcall_k (d1) ?_; rintro _ _ ⟨rfl, rfl⟩ -; refine Ev_in ?_)
    | (with_reducible refine pcall_k (d2) ?_; rintro _ _ ⟨rfl, rfl⟩ -; refine Ev_in ?_)
    | (clear hnx nx; with_reducible apply hnx; clear hnx nx)
    | (clear hnx nx; clear hnx nx; with_reducible apply hnx; clear hnx nx)
    | (clear hnx nx; clear hnx nx; clear hnx nx; with_reducible apply hnx; clear hnx nx))
  all_goals first
    | exact rfl
    | (exfalso
       omega)
    | (refine hfin _ _ ?_
       exact Fin_dig (n := nm) (by simp only [fr_getD_cons, Nat.reduceEqDiff, Nat.reduceLT, ↓reduceIte]) (by simp [look, hnm]) hvl ⟨rfl, rfl⟩)
end Go.PM

namespace Go.PM
open Go.Proofs
attribute [local irreducible] W PCalls pcall pcallI WL
set_option maxRecDepth 100000 in
set_option maxHeartbeats 8000000 in
theorem top_c (G : Globs) (hG : G 1 = .iptr (KS.map pw) 0) (seed : List UInt8) (hs : seed.length ≤ 4000) (k : Int) (hk : inR k) (c : Nat) (hc : c < 68) :
    PCalls Tryd.prog G 45 [pint .i64 c, .iptr [pint .i64 k] 0, .iptr [pstr seed] 0] [] (fun res H => res = .agg ((topF seed k c).map pbyte) ∧ H = []) := by
  have hcR : inR (c : Int) := ⟨by omega, by omega⟩
  have c1 := start_c G hG seed hs k c hk hcR
  have c2 := adv_c G hG k c 0 3 (startF seed k c) hk hcR (by omega) (by omega) (by omega) (by omega) (startF_len _ _ _)
  rw [show advF k c 0 (3 - 0 : Int).toNat (startF seed k c) = topF seed k c from rfl] at c2
  have htl := topF_len seed k c
  generalize topF seed k c = t at *
  generalize startF seed k c = v at *
  have hone := all_one_byte t
  have hl2 : (t.map pbyte).length = 16 := by rw [List.length_map, htl]
  have tk : List.take 16 (t.map pbyte) = t.map pbyte := List.take_of_length_le (by omega)
  (refine PCalls_f Tryd.func45 rfl Tryd.ntmps45 Tryd.results45 (by simp) fun fin hfin => ?_; have hnm : True := trivial; simp (maxSteps := 2000000) (disch := omega) only [evb, evd, pbuiltin, constPV, pnck, seqK, blockK, scopeK, pbin, pun, ppick, plen, piaddr, pindex, pfield, pslice, pbound, pconv, pelems, pextract, pmm, PV.mem?, PV.one, PV.cells, pageq, peqs, peq1, pmakes, pstore, pbytes, pmark, pusd, pust, psrc, pkey, pkeys, pnile, pcap, pgrow, List.set, Value.cells, ↓popG_eq, ↓pop.eq_1, ↓List.getElem?_map, ↓List.getElem?_cons_zero, ↓List.getElem?_cons_succ, Value.oneCell', Nat.reduceAdd, Nat.reduceMul, Nat.reduceSub, Nat.reduceLeDiff, Nat.reduceEqDiff, ↓reduceIte, ne_eq, reduceCtorEq, forall_const, exists_and_left, exists_eq_left', eq_self, Nat.reduceLT, Int.reduceLT, Int.reduceLE, Int.reduceToNat, Int.reduceAdd, Int.reduceSub, Int.reduceNeg, hnm, Tryd.tf0, Tryd.tf3, Tryd.tf5, Tryd.tf9, Tryd.teq22, Tryd.tf23, Tryd.teq23, Tryd.teq28, Tryd.teq82, Tryd.teq83, Tryd.teq89, Tryd.teq103, Tryd.teq106, Tryd.call27, Tryd.call28])
  repeat' (first
    | (with_reducible apply W_seq_k; intro nx hnx)
    | (with_reducible first | apply W_block | apply W_scope)
    | (with_reducible refine W_prune 23 ?_; simp only [prb, Nat.reducePow, Nat.reduceDiv, Nat.reduceMod, Nat.reduceBEq]; first | (with_reducible apply W_region_l) | with_reducible refine W_region_draw (id := 1) 2 (.op 0 true (.op 1 true (.op 2 true (.op 3 true (.op 4 true (.op 5 true (.op 6 false (.op 7 false (.done))))))))) (by kernel_rfl) ?_)
    | ((first | (with_reducible apply WL_op; intro nx hnx) | with_reducible refine Ev_out ?_ | (with_reducible apply popsD_op; intro nx hnx) | (with_reducible refine popsD_alt ?_ ?_; intro nx hnx) | (with_reducible refine pfresh_k hnm fun nm hnm => ?_; (try simp only [fmb] at hnm)) | (with_reducible refine pborn_mu hnm fun nm hnm => ?_; (try simp only [fmb] at hnm))); try (simp (maxSteps := 2000000) (disch := omega) only [evb, evd, pbuiltin, constPV, pnck, seqK, blockK, scopeK, pbin, pun, ppick, plen, piaddr, pindex, pfield, pslice, pbound, pconv, pelems, pextract, pmm, PV.mem?, PV.one, PV.cells, pageq, peqs, peq1, pmakes, pstore, pbytes, pmark, pusd, pust, psrc, pkey, pkeys, pnile, pcap, pgrow, List.set, Value.cells, ↓popG_eq, ↓pop.eq_1, ↓List.getElem?_map, ↓List.getElem?_cons_zero, ↓List.getElem?_cons_succ, Value.oneCell', Nat.reduceAdd, Nat.reduceMul, Nat.reduceSub, Nat.reduceLeDiff, Nat.reduceEqDiff, ↓reduceIte, ne_eq, reduceCtorEq, forall_const, exists_and_left, exists_eq_left', eq_self, Nat.reduceLT, Int.reduceLT, Int.reduceLE, Int.reduceToNat, Int.reduceAdd, Int.reduceSub, Int.reduceNeg, hnm, Tryd.tf0, Tryd.tf3, Tryd.tf5, Tryd.tf9, Tryd.teq22, Tryd.tf23, Tryd.teq23, Tryd.teq28, Tryd.teq82, Tryd.teq83, Tryd.teq89, Tryd.teq103, Tryd.teq106, Tryd.call27, Tryd.call28, hone, hl2, tk]); repeat (refine And.intro (by omega) ?_))
    | ((with_reducible first | apply WL_nil | apply W_label | apply W_skip | apply W_exit | apply W_ret | apply popsD_done); try simp only [seqK, blockK, scopeK, ↓reduceIte, Nat.reduceEqDiff])
    | with_reducible exact popsD_stop
    | (with_reducible apply W_cond_k; intro _ _ ea eb; (simp only [condK, cob, opnd, constPV, Nat.reduceEqDiff, Nat.reduceLT, ↓reduceIte, hcb, reduceCtorEq, forall_const, ne_eq]); subst ea eb; first | (refine ⟨fun hc => ?_, fun hc => ?_⟩ <;> first | (exfalso; omega) | (exfalso; exact hc trivial) | skip) | skip)
    | (with_reducible apply hnx; clear hnx nx)
    | (with_reducible refine And.intro (by omega) ?_)
    | (with_reducible refine And.intro ?_ ?_)
    | (with_reducible refine pcall_k (c1) ?_; rintro _ _ ⟨rfl, rfl⟩ -; refine Ev_in ?_)
    | (with_reducible refine pcall_k (c2) ?_; rintro _ _ ⟨rfl, rfl⟩ -; refine Ev_in ?_)
    | (clear hnx nx; with_reducible apply hnx; clear hnx nx)
    | (clear hnx nx; clear hnx nx; with_reducible apply hnx; clear hnx nx)
    | (clear hnx nx; clear hnx nx; clear hnx nx; with_reducible apply hnx; clear hnx nx))
  all_goals first
    | exact rfl
    | (exfalso
       omega)
    | (refine hfin _ _ ?_
       exact Fin_dig (n := nm) (by simp only [fr_getD_cons, Nat.reduceEqDiff, Nat.reduceLT, ↓reduceIte]) (by simp [look, hnm]) htl ⟨rfl, rfl⟩)
theorem Fin_digH {x : Tmp} {n : Int} {f : List UInt8} {R : PV → Heap → Prop} {σ : PState} {H : Heap} (hx : σ.frame.getD x .junk = .ptr n 0) (hl : look σ.heap n = some ⟨23, false, 0, f.map pbyte⟩) (hf : f.length = 16)
    (h2 : Sub H σ.heap) (h3 : R (.agg (f.map pbyte)) H) : Fin Tryd.prog [.cell x 23] R .ret σ := by
  have hone := all_one_byte f
  have htk : List.take 16 (f.map pbyte) = f.map pbyte := List.take_of_length_le (by rw [List.length_map]; omega)
  refine Fin_cell (res := .agg (f.map pbyte)) Tryd.tf23 (n := n) (off := 0) (o := ⟨23, false, 0, f.map pbyte⟩) hx hl ?_ h2 h3
  simp [pload, hf, htk, hone]
/-- The key of a node. -/
@[reducible] def keyV (l k : Nat) : Value := .agg #[.int .i64 l, .int .i64 k]
/-- The cells of the memory of nodes. -/
def memC (seed : List UInt8) (T : List (Nat × Nat)) : List PV := T.map fun x => .ent (.val (keyV x.1 x.2)) (.agg ((nodeV seed x.1 x.2).map pbyte))
theorem vsame_key (l k l' k' : Nat) : vsame (keyV l k) (keyV l' k') = some (decide ((l, k) = (l', k'))) := by
  simp only [vsame, keyV, List.toList_toArray, vsames, if_true, Option.some.injEq, Bool.and_true]
  rw [Bool.eq_iff_iff]
  simp only [Bool.and_eq_true, beq_iff_eq, decide_eq_true_eq, Prod.mk.injEq]
  omega
theorem mfind_mem (seed : List UInt8) (l k : Nat) : ∀ (T : List (Nat × Nat)) (i : Nat), (l, k) ∈ T → ∃ j, mfind (keyV l k) (memC seed T) i = some (some (i + j, .agg ((nodeV seed l k).map pbyte))) ∧ T[j]? = some (l, k)
  | [], _, h => absurd h (by simp)
  | x :: T, i, h => by
    obtain ⟨l', k'⟩ := x
    by_cases hx : (l, k) = (l', k')
    · cases hx
      refine ⟨0, ?_, rfl⟩
      simp only [memC, List.map_cons, mfind, vsame_key, decide_true, Nat.add_zero]
    · obtain ⟨j, h1, h2⟩ := mfind_mem seed l k T (i + 1) (by
        rcases List.mem_cons.1 h with h | h
        · exact absurd h hx
        · exact h)
      refine ⟨j + 1, ?_, by simpa using h2⟩
      simp only [memC, List.map_cons, mfind, vsame_key, decide_eq_false hx]
      rw [show i + (j + 1) = i + 1 + j by omega]
      exact h1
theorem mfind_not (seed : List UInt8) (l k : Nat) : ∀ (T : List (Nat × Nat)) (i : Nat), (l, k) ∉ T → mfind (keyV l k) (memC seed T) i = some none
  | [], _, _ => rfl
  | x :: T, i, h => by
    obtain ⟨l', k'⟩ := x
    have hx : ¬ (l, k) = (l', k') := fun e => h (e ▸ .head _)
    have ih := mfind_not seed l k T (i + 1) fun e => h (.tail _ e)
    simp only [memC, List.map_cons, mfind, vsame_key, decide_eq_false hx]
    exact ih
theorem memC_set (seed : List UInt8) (l k j : Nat) (T : List (Nat × Nat)) (h : T[j]? = some (l, k)) : (memC seed T).set j (.ent (.val (keyV l k)) (.agg ((nodeV seed l k).map pbyte))) = memC seed T := by
  refine List.ext_getElem? fun i => ?_
  rw [List.getElem?_set]
  split
  · rename_i e
    subst e
    have hj : (memC seed T)[j]? = some (.ent (.val (keyV l k)) (.agg ((nodeV seed l k).map pbyte))) := by simp [memC, h]
    have : j < (memC seed T).length := by
      rcases Nat.lt_or_ge j (memC seed T).length with h1 | h1
      · exact h1
      · rw [List.getElem?_eq_none h1] at hj
        cases hj
    rw [if_pos this, hj]
  · rfl
theorem memC_app (seed : List UInt8) (l k : Nat) (T : List (Nat × Nat)) : memC seed T ++ [.ent (.val (keyV l k)) (.agg ((nodeV seed l k).map pbyte))] = memC seed (T ++ [(l, k)]) := by
  simp [memC]
/-- What the function that nodes returns works on: itself, the memory, the seed. -/
@[reducible] def HM (a m M s : Int) (seed : List UInt8) (T : List (Nat × Nat)) : Heap :=
  [(a, ⟨45, false, 0, [.func 44 [.ptr m 0, .ptr s 0, .ptr a 0]]⟩), (m, ⟨73, false, 0, [.mp M]⟩), (M, ⟨73, false, 0, memC seed T⟩), (s, ⟨9, false, 0, [pstr seed]⟩)]
section
variable {G : Globs} {I : List Int}
end
end Go.PM

namespace Go.PM
open Go.Proofs
attribute [local irreducible] W PCalls pcall pcallI WL
theorem HM_ne {a m M s : Int} {seed : List UInt8} {T : List (Nat × Nat)} (nd : (names (HM a m M s seed T)).Nodup) :
    (a = m) = False ∧ (m = a) = False ∧ (a = M) = False ∧ (M = a) = False ∧ (a = s) = False ∧ (s = a) = False ∧ (m = M) = False ∧ (M = m) = False ∧ (m = s) = False ∧ (s = m) = False ∧ (M = s) = False ∧ (s = M) = False := by
  simp only [names, List.map_cons, List.map_nil, List.nodup_cons, List.mem_cons, List.not_mem_nil, or_false, not_or] at nd
  obtain ⟨⟨n1, n2, n3⟩, ⟨n4, n5⟩, n6, -⟩ := nd
  exact ⟨eq_false n1, eq_false fun e => n1 e.symm, eq_false n2, eq_false fun e => n2 e.symm, eq_false n3, eq_false fun e => n3 e.symm, eq_false n4, eq_false fun e => n4 e.symm, eq_false n5, eq_false fun e => n5 e.symm, eq_false n6, eq_false fun e => n6 e.symm⟩
/-- What a call of the function must answer. -/
@[reducible] def NRes (a m M s : Int) (seed : List UInt8) (l k : Nat) (res : PV) (H : Heap) : Prop := res = .agg ((nodeV seed l k).map pbyte) ∧ ∃ T', H = HM a m M s seed T'
set_option maxRecDepth 100000 in
set_option maxHeartbeats 8000000 in
theorem node_hit (G : Globs) (seed : List UInt8) (a m M s : Int) (l k : Nat) (T : List (Nat × Nat)) (hm : (l, k) ∈ T) :
    PCalls Tryd.prog G 44 [pint .i64 l, pint .i64 k, .ptr m 0, .ptr s 0, .ptr a 0] (HM a m M s seed T) (NRes a m M s seed l k) := by
  refine PCalls.nd fun nd => ?_
  have hne := HM_ne nd
  have hvl := nodeV_len seed l k
  have hone := all_one_byte (nodeV seed l k)
  have hl2 : ((nodeV seed l k).map pbyte).length = 16 := by rw [List.length_map, hvl]
  have tk : List.take 16 ((nodeV seed l k).map pbyte) = (nodeV seed l k).map pbyte := List.take_of_length_le (by omega)
  obtain ⟨Z, hZ⟩ : ∃ Z, Z = List.replicate 16 (pint .u8 0) := ⟨_, rfl⟩
  have hZ2 : [pint .u8 0, pint .u8 0, pint .u8 0, pint .u8 0, pint .u8 0, pint .u8 0, pint .u8 0, pint .u8 0, pint .u8 0, pint .u8 0, pint .u8 0, pint .u8 0, pint .u8 0, pint .u8 0, pint .u8 0, pint .u8 0] = Z := by rw [hZ]; rfl
  have hZl : Z.length = 16 := by rw [hZ]; rfl
  have hZd : List.drop 16 Z = [] := List.drop_of_length_le (by omega)
  have hZo : Z.all PV.one = true := by rw [hZ]; rfl
  obtain ⟨j, hm1, hm2⟩ := mfind_mem seed l k T 0 hm
  rw [Nat.zero_add] at hm1
  have hfin2 : NRes a m M s seed l k (.agg ((nodeV seed l k).map pbyte)) (HM a m M s seed T) := ⟨rfl, T, rfl⟩
  have hR : ∀ res H, NRes a m M s seed l k res H → NRes a m M s seed l k res H := fun _ _ h => h
  generalize NRes a m M s seed l k = R at *
  generalize nodeV seed l k = x at *
  (refine PCalls_f Tryd.func44 rfl Tryd.ntmps44 Tryd.results44 (by simp) fun fin hfin => ?_; have hnm : True := trivial; simp (maxSteps := 2000000) (disch := omega) only [evb, evd, pbuiltin, constPV, pnck, seqK, blockK, scopeK, pbin, pun, ppick, plen, piaddr, pindex, pfield, pslice, pbound, pconv, pelems, pextract, pmm, PV.mem?, PV.one, PV.cells, pageq, peqs, peq1, pmakes, pstore, pbytes, pmark, pusd, pust, psrc, pkey, pkeys, pnile, pcap, pgrow, List.set, Value.cells, ↓popG_eq, ↓pop.eq_1, ↓List.getElem?_map, ↓List.getElem?_cons_zero, ↓List.getElem?_cons_succ, Value.oneCell', Nat.reduceAdd, Nat.reduceMul, Nat.reduceSub, Nat.reduceLeDiff, Nat.reduceEqDiff, ↓reduceIte, ne_eq, reduceCtorEq, forall_const, exists_and_left, exists_eq_left', eq_self, Nat.reduceLT, Int.reduceLT, Int.reduceLE, Int.reduceToNat, Int.reduceAdd, Int.reduceSub, Int.reduceNeg, hnm, Tryd.tf0, Tryd.tf1, Tryd.tf3, Tryd.tf4, Tryd.tf5, Tryd.teq22, Tryd.tf23, Tryd.teq23, Tryd.tf28, Tryd.teq28, Tryd.tf45, Tryd.tf69, Tryd.tf73, Tryd.tf74, Tryd.teq82, Tryd.teq83, Tryd.teq89, Tryd.teq103, Tryd.teq106, Tryd.call38, Tryd.call40])
  repeat' (first
    | (with_reducible apply W_seq_k; intro nx hnx)
    | (with_reducible first | apply W_block | apply W_scope)
    | (with_reducible refine W_prune 2015 ?_; simp only [prb, Nat.reducePow, Nat.reduceDiv, Nat.reduceMod, Nat.reduceBEq]; first | (with_reducible apply W_region_l) | with_reducible refine W_region_draw (id := 7) 3 (.op 0 true (.op 1 true (.op 2 true (.op 3 true (.op 4 true (.op 7 true (.op 8 true (.alt 5 false (.alt 6 true (.alt 9 true (.op 10 true (.op 11 true (.op 12 false (.op 13 false (.op 14 false (.done)))))) .stop) (.alt 9 true (.op 10 true (.op 11 true (.alt 6 true (.op 12 false (.op 13 false (.op 14 false (.done)))) .stop))) .stop)) (.alt 6 true (.alt 5 false (.alt 9 true (.op 10 true (.op 11 true (.op 12 false (.op 13 false (.op 14 false (.done)))))) .stop) (.alt 9 true (.op 10 true (.op 11 true (.op 5 false (.op 12 false (.op 13 false (.op 14 false (.done))))))) .stop)) (.alt 9 true (.op 10 true (.op 11 true (.alt 5 false (.alt 6 true (.op 12 false (.op 13 false (.op 14 false (.done)))) .stop) (.alt 6 true (.op 5 false (.op 12 false (.op 13 false (.op 14 false (.done))))) .stop)))) .stop)))))))))) (by kernel_rfl) ?_)
    | ((first | (with_reducible apply WL_op; intro nx hnx) | with_reducible refine Ev_out ?_ | (with_reducible apply popsD_op; intro nx hnx) | (with_reducible refine popsD_alt ?_ ?_; intro nx hnx) | (with_reducible refine pfresh_k hnm fun nm hnm => ?_; (try simp only [fmb] at hnm)) | (with_reducible refine pborn_mu hnm fun nm hnm => ?_; (try simp only [fmb] at hnm))); try (simp (maxSteps := 2000000) (disch := omega) only [evb, evd, pbuiltin, constPV, pnck, seqK, blockK, scopeK, pbin, pun, ppick, plen, piaddr, pindex, pfield, pslice, pbound, pconv, pelems, pextract, pmm, PV.mem?, PV.one, PV.cells, pageq, peqs, peq1, pmakes, pstore, pbytes, pmark, pusd, pust, psrc, pkey, pkeys, pnile, pcap, pgrow, List.set, Value.cells, ↓popG_eq, ↓pop.eq_1, ↓List.getElem?_map, ↓List.getElem?_cons_zero, ↓List.getElem?_cons_succ, Value.oneCell', Nat.reduceAdd, Nat.reduceMul, Nat.reduceSub, Nat.reduceLeDiff, Nat.reduceEqDiff, ↓reduceIte, ne_eq, reduceCtorEq, forall_const, exists_and_left, exists_eq_left', eq_self, Nat.reduceLT, Int.reduceLT, Int.reduceLE, Int.reduceToNat, Int.reduceAdd, Int.reduceSub, Int.reduceNeg, hnm, Tryd.tf0, Tryd.tf1, Tryd.tf3, Tryd.tf4, Tryd.tf5, Tryd.teq22, Tryd.tf23, Tryd.teq23, Tryd.tf28, Tryd.teq28, Tryd.tf45, Tryd.tf69, Tryd.tf73, Tryd.tf74, Tryd.teq82, Tryd.teq83, Tryd.teq89, Tryd.teq103, Tryd.teq106, Tryd.call38, Tryd.call40, hne, hone, hl2, tk, hm1, hZ2, hZl, hZd, hZo]); repeat (refine And.intro (by omega) ?_))
    | ((with_reducible first | apply WL_nil | apply W_label | apply W_skip | apply W_exit | apply W_ret | apply popsD_done); try simp only [seqK, blockK, scopeK, ↓reduceIte, Nat.reduceEqDiff])
    | with_reducible exact popsD_stop
    | (with_reducible apply W_cond_k; intro _ _ ea eb; (simp only [condK, cob, opnd, constPV, Nat.reduceEqDiff, Nat.reduceLT, ↓reduceIte, hcb, reduceCtorEq, forall_const, ne_eq]); subst ea eb; first | (refine ⟨fun hc => ?_, fun hc => ?_⟩ <;> first | (exfalso; omega) | (exfalso; exact hc trivial) | skip) | skip)
    | (with_reducible apply hnx; clear hnx nx)
    | (with_reducible refine And.intro (by omega) ?_)
    | (with_reducible refine And.intro ?_ ?_)
    | (clear hnx nx; with_reducible apply hnx; clear hnx nx)
    | (clear hnx nx; clear hnx nx; with_reducible apply hnx; clear hnx nx)
    | (clear hnx nx; clear hnx nx; clear hnx nx; with_reducible apply hnx; clear hnx nx))
  all_goals first
    | exact rfl
    | (exfalso
       omega)
    | (refine hfin _ _ ?_
       exact Fin_digH (n := _) (by simp only [fr_getD_cons, Nat.reduceEqDiff, Nat.reduceLT, ↓reduceIte]; rfl) (by simp [look, hnm]) hvl ⟨by simp, nd⟩ hfin2)
set_option maxRecDepth 100000 in
set_option maxHeartbeats 8000000 in
theorem node_zero (G : Globs) (hG : G 1 = .iptr (KS.map pw) 0) (seed : List UInt8) (hs : seed.length ≤ 4000) (a m M s : Int) (k : Nat) (hk : k ≤ 1000000) (T : List (Nat × Nat)) (hm : (0, k) ∉ T) :
    PCalls Tryd.prog G 44 [pint .i64 (0 : Nat), pint .i64 k, .ptr m 0, .ptr s 0, .ptr a 0] (HM a m M s seed T) (NRes a m M s seed 0 k) := by
  refine PCalls.nd fun nd => ?_
  have hne := HM_ne nd
  have hvl := nodeV_len seed 0 k
  have hone := all_one_byte (nodeV seed 0 k)
  have hl2 : ((nodeV seed 0 k).map pbyte).length = 16 := by rw [List.length_map, hvl]
  have tk : List.take 16 ((nodeV seed 0 k).map pbyte) = (nodeV seed 0 k).map pbyte := List.take_of_length_le (by omega)
  obtain ⟨Z, hZ⟩ : ∃ Z, Z = List.replicate 16 (pint .u8 0) := ⟨_, rfl⟩
  have hZ2 : [pint .u8 0, pint .u8 0, pint .u8 0, pint .u8 0, pint .u8 0, pint .u8 0, pint .u8 0, pint .u8 0, pint .u8 0, pint .u8 0, pint .u8 0, pint .u8 0, pint .u8 0, pint .u8 0, pint .u8 0, pint .u8 0] = Z := by rw [hZ]; rfl
  have hZl : Z.length = 16 := by rw [hZ]; rfl
  have hZd : List.drop 16 Z = [] := List.drop_of_length_le (by omega)
  have hZo : Z.all PV.one = true := by rw [hZ]; rfl
  have hm1 : mfind (.agg #[.int .i64 0, .int .i64 (k : Int)]) (memC seed T) 0 = some none := mfind_not seed 0 k T 0 hm
  have hap : memC seed T ++ [.ent (.val (.agg #[.int .i64 0, .int .i64 (k : Int)])) (.agg ((nodeV seed 0 k).map pbyte))] = memC seed (T ++ [(0, k)]) := memC_app seed 0 k T
  have hkR : inR (k : Int) := ⟨by omega, by omega⟩
  have c1 := leaf_c G hG 45 [.iptr [pint .i64 k] 0, .iptr [pstr seed] 0] (topF seed k) (fun c _ => topF_len _ _ _) (by kernel_rfl) (fun c hc => top_c G hG seed hs k hkR c hc)
  rw [show leafF (topF seed k) = nodeV seed 0 k from rfl] at c1
  have hfin2 : NRes a m M s seed 0 k (.agg ((nodeV seed 0 k).map pbyte)) (HM a m M s seed (T ++ [(0, k)])) := ⟨rfl, _, rfl⟩
  have hR : ∀ res H, NRes a m M s seed 0 k res H → NRes a m M s seed 0 k res H := fun _ _ h => h
  generalize NRes a m M s seed 0 k = R at *
  generalize nodeV seed 0 k = x at *
  (refine PCalls_f Tryd.func44 rfl Tryd.ntmps44 Tryd.results44 (by simp) fun fin hfin => ?_; have hnm : True := trivial; simp (maxSteps := 2000000) (disch := omega) only [evb, evd, pbuiltin, constPV, pnck, seqK, blockK, scopeK, pbin, pun, ppick, plen, piaddr, pindex, pfield, pslice, pbound, pconv, pelems, pextract, pmm, PV.mem?, PV.one, PV.cells, pageq, peqs, peq1, pmakes, pstore, pbytes, pmark, pusd, pust, psrc, pkey, pkeys, pnile, pcap, pgrow, List.set, Value.cells, ↓popG_eq, ↓pop.eq_1, ↓List.getElem?_map, ↓List.getElem?_cons_zero, ↓List.getElem?_cons_succ, Value.oneCell', Nat.reduceAdd, Nat.reduceMul, Nat.reduceSub, Nat.reduceLeDiff, Nat.reduceEqDiff, ↓reduceIte, ne_eq, reduceCtorEq, forall_const, exists_and_left, exists_eq_left', eq_self, Nat.reduceLT, Int.reduceLT, Int.reduceLE, Int.reduceToNat, Int.reduceAdd, Int.reduceSub, Int.reduceNeg, hnm, Tryd.tf0, Tryd.tf1, Tryd.tf3, Tryd.tf4, Tryd.tf5, Tryd.teq22, Tryd.tf23, Tryd.teq23, Tryd.tf28, Tryd.teq28, Tryd.tf45, Tryd.tf69, Tryd.tf73, Tryd.tf74, Tryd.teq82, Tryd.teq83, Tryd.teq89, Tryd.teq103, Tryd.teq106, Tryd.call38, Tryd.call40])
  repeat' (first
    | (with_reducible apply W_seq_k; intro nx hnx)
    | (with_reducible first | apply W_block | apply W_scope)
    | (with_reducible refine W_prune 2015 ?_; simp only [prb, Nat.reducePow, Nat.reduceDiv, Nat.reduceMod, Nat.reduceBEq]; first | (with_reducible apply W_region_l) | with_reducible refine W_region_draw (id := 7) 3 (.op 0 true (.op 1 true (.op 2 true (.op 3 true (.op 4 true (.op 7 true (.op 8 true (.alt 5 false (.alt 6 true (.alt 9 true (.op 10 true (.op 11 true (.op 12 false (.op 13 false (.op 14 false (.done)))))) .stop) (.alt 9 true (.op 10 true (.op 11 true (.alt 6 true (.op 12 false (.op 13 false (.op 14 false (.done)))) .stop))) .stop)) (.alt 6 true (.alt 5 false (.alt 9 true (.op 10 true (.op 11 true (.op 12 false (.op 13 false (.op 14 false (.done)))))) .stop) (.alt 9 true (.op 10 true (.op 11 true (.op 5 false (.op 12 false (.op 13 false (.op 14 false (.done))))))) .stop)) (.alt 9 true (.op 10 true (.op 11 true (.alt 5 false (.alt 6 true (.op 12 false (.op 13 false (.op 14 false (.done)))) .stop) (.alt 6 true (.op 5 false (.op 12 false (.op 13 false (.op 14 false (.done))))) .stop)))) .stop)))))))))) (by kernel_rfl) ?_)
    | ((first | (with_reducible apply WL_op; intro nx hnx) | with_reducible refine Ev_out ?_ | (with_reducible apply popsD_op; intro nx hnx) | (with_reducible refine popsD_alt ?_ ?_; intro nx hnx) | (with_reducible refine pfresh_k hnm fun nm hnm => ?_; (try simp only [fmb] at hnm)) | (with_reducible refine pborn_mu hnm fun nm hnm => ?_; (try simp only [fmb] at hnm))); try (simp (maxSteps := 2000000) (disch := omega) only [evb, evd, pbuiltin, constPV, pnck, seqK, blockK, scopeK, pbin, pun, ppick, plen, piaddr, pindex, pfield, pslice, pbound, pconv, pelems, pextract, pmm, PV.mem?, PV.one, PV.cells, pageq, peqs, peq1, pmakes, pstore, pbytes, pmark, pusd, pust, psrc, pkey, pkeys, pnile, pcap, pgrow, List.set, Value.cells, ↓popG_eq, ↓pop.eq_1, ↓List.getElem?_map, ↓List.getElem?_cons_zero, ↓List.getElem?_cons_succ, Value.oneCell', Nat.reduceAdd, Nat.reduceMul, Nat.reduceSub, Nat.reduceLeDiff, Nat.reduceEqDiff, ↓reduceIte, ne_eq, reduceCtorEq, forall_const, exists_and_left, exists_eq_left', eq_self, Nat.reduceLT, Int.reduceLT, Int.reduceLE, Int.reduceToNat, Int.reduceAdd, Int.reduceSub, Int.reduceNeg, hnm, Tryd.tf0, Tryd.tf1, Tryd.tf3, Tryd.tf4, Tryd.tf5, Tryd.teq22, Tryd.tf23, Tryd.teq23, Tryd.tf28, Tryd.teq28, Tryd.tf45, Tryd.tf69, Tryd.tf73, Tryd.tf74, Tryd.teq82, Tryd.teq83, Tryd.teq89, Tryd.teq103, Tryd.teq106, Tryd.call38, Tryd.call40, hne, hm1, hZ2, hZl, hZd, hZo]); repeat (refine And.intro (by omega) ?_))
    | ((with_reducible first | apply WL_nil | apply W_label | apply W_skip | apply W_exit | apply W_ret | apply popsD_done); try simp only [seqK, blockK, scopeK, ↓reduceIte, Nat.reduceEqDiff])
    | with_reducible exact popsD_stop
    | (with_reducible apply W_cond_k; intro _ _ ea eb; (simp only [condK, cob, opnd, constPV, Nat.reduceEqDiff, Nat.reduceLT, ↓reduceIte, hcb, reduceCtorEq, forall_const, ne_eq]); subst ea eb; first | (refine ⟨fun hc => ?_, fun hc => ?_⟩ <;> first | (exfalso; omega) | (exfalso; exact hc trivial) | skip) | skip)
    | (with_reducible apply hnx; clear hnx nx)
    | (with_reducible refine And.intro (by omega) ?_)
    | (with_reducible refine And.intro ?_ ?_)
    | (clear hnx nx; with_reducible apply hnx; clear hnx nx)
    | (clear hnx nx; clear hnx nx; with_reducible apply hnx; clear hnx nx)
    | (clear hnx nx; clear hnx nx; clear hnx nx; with_reducible apply hnx; clear hnx nx))
  obtain ⟨N10, hN10⟩ : ∃ N, N = nm := ⟨_, rfl⟩
  subst hN10
  obtain ⟨N8, hN8⟩ : ∃ N, N = nm := ⟨_, rfl⟩
  subst hN8
  obtain ⟨N7, hN7⟩ : ∃ N, N = nm := ⟨_, rfl⟩
  subst hN7
  obtain ⟨N6, hN6⟩ : ∃ N, N = nm := ⟨_, rfl⟩
  subst hN6
  refine pcall_lend2 (R := fun res H => res = .agg (x.map pbyte) ∧ H = []) N6 s ⟨3, false, 0, [pint .i64 k]⟩ ⟨9, false, 0, [pstr seed]⟩ (by simp [look, hnm, hne]) (by simp [look, hnm, hne]) ?_ ?_
  · have e : ([PV.func 45 [.ptr N6 0, .ptr s 0]].map fun p => frz s [pstr seed] (frz N6 [pint .i64 k] p)) = [.func 45 [.iptr [pint .i64 k] 0, .iptr [pstr seed] 0]] := by
      simp [frz, frz1, hnm, hne]
    rw [e]
    exact c1
  · rintro _ _ ⟨rfl, rfl⟩
    refine ⟨rfl, Flat_all fun c hc => ?_, ?_⟩
    · obtain ⟨b, _, rfl⟩ := List.mem_map.1 hc
      exact ⟨_, rfl⟩
    refine Ev_in ?_
    repeat' (first
    | (with_reducible apply W_seq_k; intro nx hnx)
    | (with_reducible first | apply W_block | apply W_scope)
    | (with_reducible refine W_prune 2015 ?_; simp only [prb, Nat.reducePow, Nat.reduceDiv, Nat.reduceMod, Nat.reduceBEq]; first | (with_reducible apply W_region_l) | with_reducible refine W_region_draw (id := 7) 3 (.op 0 true (.op 1 true (.op 2 true (.op 3 true (.op 4 true (.op 7 true (.op 8 true (.alt 5 false (.alt 6 true (.alt 9 true (.op 10 true (.op 11 true (.op 12 false (.op 13 false (.op 14 false (.done)))))) .stop) (.alt 9 true (.op 10 true (.op 11 true (.alt 6 true (.op 12 false (.op 13 false (.op 14 false (.done)))) .stop))) .stop)) (.alt 6 true (.alt 5 false (.alt 9 true (.op 10 true (.op 11 true (.op 12 false (.op 13 false (.op 14 false (.done)))))) .stop) (.alt 9 true (.op 10 true (.op 11 true (.op 5 false (.op 12 false (.op 13 false (.op 14 false (.done))))))) .stop)) (.alt 9 true (.op 10 true (.op 11 true (.alt 5 false (.alt 6 true (.op 12 false (.op 13 false (.op 14 false (.done)))) .stop) (.alt 6 true (.op 5 false (.op 12 false (.op 13 false (.op 14 false (.done))))) .stop)))) .stop)))))))))) (by kernel_rfl) ?_)
    | ((first | (with_reducible apply WL_op; intro nx hnx) | with_reducible refine Ev_out ?_ | (with_reducible apply popsD_op; intro nx hnx) | (with_reducible refine popsD_alt ?_ ?_; intro nx hnx) | (with_reducible refine pfresh_k hnm fun nm hnm => ?_; (try simp only [fmb] at hnm)) | (with_reducible refine pborn_mu hnm fun nm hnm => ?_; (try simp only [fmb] at hnm))); try (simp (maxSteps := 2000000) (disch := omega) only [evb, evd, pbuiltin, constPV, pnck, seqK, blockK, scopeK, pbin, pun, ppick, plen, piaddr, pindex, pfield, pslice, pbound, pconv, pelems, pextract, pmm, PV.mem?, PV.one, PV.cells, pageq, peqs, peq1, pmakes, pstore, pbytes, pmark, pusd, pust, psrc, pkey, pkeys, pnile, pcap, pgrow, List.set, Value.cells, ↓popG_eq, ↓pop.eq_1, ↓List.getElem?_map, ↓List.getElem?_cons_zero, ↓List.getElem?_cons_succ, Value.oneCell', Nat.reduceAdd, Nat.reduceMul, Nat.reduceSub, Nat.reduceLeDiff, Nat.reduceEqDiff, ↓reduceIte, ne_eq, reduceCtorEq, forall_const, exists_and_left, exists_eq_left', eq_self, Nat.reduceLT, Int.reduceLT, Int.reduceLE, Int.reduceToNat, Int.reduceAdd, Int.reduceSub, Int.reduceNeg, hnm, Tryd.tf0, Tryd.tf1, Tryd.tf3, Tryd.tf4, Tryd.tf5, Tryd.teq22, Tryd.tf23, Tryd.teq23, Tryd.tf28, Tryd.teq28, Tryd.tf45, Tryd.tf69, Tryd.tf73, Tryd.tf74, Tryd.teq82, Tryd.teq83, Tryd.teq89, Tryd.teq103, Tryd.teq106, Tryd.call38, Tryd.call40, hne, hone, hl2, tk, hm1, hap, hZ2, hZl, hZd, hZo]); repeat (refine And.intro (by omega) ?_))
    | ((with_reducible first | apply WL_nil | apply W_label | apply W_skip | apply W_exit | apply W_ret | apply popsD_done); try simp only [seqK, blockK, scopeK, ↓reduceIte, Nat.reduceEqDiff])
    | with_reducible exact popsD_stop
    | (with_reducible apply W_cond_k; intro _ _ ea eb; (simp only [condK, cob, opnd, constPV, Nat.reduceEqDiff, Nat.reduceLT, ↓reduceIte, hcb, reduceCtorEq, forall_const, ne_eq]); subst ea eb; first | (refine ⟨fun hc => ?_, fun hc => ?_⟩ <;> first | (exfalso; omega) | (exfalso; exact hc trivial) | skip) | skip)
    | (with_reducible apply hnx; clear hnx nx)
    | (with_reducible refine And.intro (by omega) ?_)
    | (with_reducible refine And.intro ?_ ?_)
    | (clear hnx nx; with_reducible apply hnx; clear hnx nx)
    | (clear hnx nx; clear hnx nx; with_reducible apply hnx; clear hnx nx)
    | (clear hnx nx; clear hnx nx; clear hnx nx; with_reducible apply hnx; clear hnx nx))
    all_goals first
      | exact rfl
      | (exfalso
         omega)
      | (refine hfin _ _ ?_
         exact Fin_digH (n := N7) (H := HM a m M s seed (T ++ [(0, k)])) (by simp only [fr_getD_cons, Nat.reduceEqDiff, Nat.reduceLT, ↓reduceIte]) (by simp [look, hnm]) hvl ⟨by simp, nd⟩ hfin2)
set_option maxRecDepth 100000 in
set_option maxHeartbeats 8000000 in
theorem node_succ (G : Globs) (hG : G 1 = .iptr (KS.map pw) 0) (seed : List UInt8) (a m M s : Int) (l k n k1 k2 : Nat) (hl : l ≤ 5) (hk : k ≤ 1000000) (hn : n = l + 1) (hk1 : k1 = 2 * k) (hk2 : k2 = 2 * k + 1) (T : List (Nat × Nat)) (hm : (n, k) ∉ T)
    (ih1 : PCalls Tryd.prog G 44 [pint .i64 l, pint .i64 k1, .ptr m 0, .ptr s 0, .ptr a 0] (HM a m M s seed T) (NRes a m M s seed l k1))
    (ih2 : ∀ T', PCalls Tryd.prog G 44 [pint .i64 l, pint .i64 k2, .ptr m 0, .ptr s 0, .ptr a 0] (HM a m M s seed T') (NRes a m M s seed l k2)) :
    PCalls Tryd.prog G 44 [pint .i64 n, pint .i64 k, .ptr m 0, .ptr s 0, .ptr a 0] (HM a m M s seed T) (NRes a m M s seed n k) := by
  refine PCalls.nd fun nd => ?_
  have hne := HM_ne nd
  have hvl := nodeV_len seed n k
  have hone := all_one_byte (nodeV seed n k)
  have hl2 : ((nodeV seed n k).map pbyte).length = 16 := by rw [List.length_map, hvl]
  have tk : List.take 16 ((nodeV seed n k).map pbyte) = (nodeV seed n k).map pbyte := List.take_of_length_le (by omega)
  obtain ⟨Z, hZ⟩ : ∃ Z, Z = List.replicate 16 (pint .u8 0) := ⟨_, rfl⟩
  have hZ2 : [pint .u8 0, pint .u8 0, pint .u8 0, pint .u8 0, pint .u8 0, pint .u8 0, pint .u8 0, pint .u8 0, pint .u8 0, pint .u8 0, pint .u8 0, pint .u8 0, pint .u8 0, pint .u8 0, pint .u8 0, pint .u8 0] = Z := by rw [hZ]; rfl
  have hZl : Z.length = 16 := by rw [hZ]; rfl
  have hZd : List.drop 16 Z = [] := List.drop_of_length_le (by omega)
  have hZo : Z.all PV.one = true := by rw [hZ]; rfl
  have hm1 : mfind (.agg #[.int .i64 (n : Int), .int .i64 (k : Int)]) (memC seed T) 0 = some none := mfind_not seed n k T 0 hm
  have hap : ∀ T', memC seed T' ++ [.ent (.val (.agg #[.int .i64 (n : Int), .int .i64 (k : Int)])) (.agg ((nodeV seed n k).map pbyte))] = memC seed (T' ++ [(n, k)]) := memC_app seed n k
  have hmN : ∀ T', (n, k) ∉ T' → mfind (.agg #[.int .i64 (n : Int), .int .i64 (k : Int)]) (memC seed T') 0 = some none := fun T' h => mfind_not seed n k T' 0 h
  have hmY : ∀ T', (n, k) ∈ T' → ∃ j, mfind (.agg #[.int .i64 (n : Int), .int .i64 (k : Int)]) (memC seed T') 0 = some (some (j, .agg ((nodeV seed n k).map pbyte))) ∧
      (memC seed T').set j (.ent (.val (.agg #[.int .i64 (n : Int), .int .i64 (k : Int)])) (.agg ((nodeV seed n k).map pbyte))) = memC seed T' := fun T' h => by
    obtain ⟨j, h1, h2⟩ := mfind_mem seed n k T' 0 h
    rw [Nat.zero_add] at h1
    exact ⟨j, h1, memC_set seed n k j T' h2⟩
  have c1 := node_c G hG (nodeV seed l k1) (nodeV seed l k2) (nodeV_len _ _ _) (nodeV_len _ _ _)
  rw [show nodeF (nodeV seed l k1) (nodeV seed l k2) = nodeV seed n k by rw [hn, hk1, hk2]; rfl] at c1
  have hfin2 : ∀ T', NRes a m M s seed n k (.agg ((nodeV seed n k).map pbyte)) (HM a m M s seed T') := fun T' => ⟨rfl, T', rfl⟩
  have g0 : ¬ n = 0 := by omega
  have hca : callable Tryd.prog 44 = true := by kernel_rfl
  have g1 : (n : Int) - 1 = (l : Int) := by omega
  have g2 : 2 * (k : Int) = (k1 : Int) := by omega
  have g3 : (k1 : Int) + 1 = (k2 : Int) := by omega
  generalize NRes a m M s seed n k = R at *
  generalize nodeV seed n k = x at *
  (refine PCalls_f Tryd.func44 rfl Tryd.ntmps44 Tryd.results44 (by simp) fun fin hfin => ?_; have hnm : True := trivial; simp (maxSteps := 2000000) (disch := omega) only [evb, evd, pbuiltin, constPV, pnck, seqK, blockK, scopeK, pbin, pun, ppick, plen, piaddr, pindex, pfield, pslice, pbound, pconv, pelems, pextract, pmm, PV.mem?, PV.one, PV.cells, pageq, peqs, peq1, pmakes, pstore, pbytes, pmark, pusd, pust, psrc, pkey, pkeys, pnile, pcap, pgrow, List.set, Value.cells, ↓popG_eq, ↓pop.eq_1, ↓List.getElem?_map, ↓List.getElem?_cons_zero, ↓List.getElem?_cons_succ, Value.oneCell', Nat.reduceAdd, Nat.reduceMul, Nat.reduceSub, Nat.reduceLeDiff, Nat.reduceEqDiff, ↓reduceIte, ne_eq, reduceCtorEq, forall_const, exists_and_left, exists_eq_left', eq_self, Nat.reduceLT, Int.reduceLT, Int.reduceLE, Int.reduceToNat, Int.reduceAdd, Int.reduceSub, Int.reduceNeg, hnm, Tryd.tf0, Tryd.tf1, Tryd.tf3, Tryd.tf4, Tryd.tf5, Tryd.teq22, Tryd.tf23, Tryd.teq23, Tryd.tf28, Tryd.teq28, Tryd.tf45, Tryd.tf69, Tryd.tf73, Tryd.tf74, Tryd.teq82, Tryd.teq83, Tryd.teq89, Tryd.teq103, Tryd.teq106, Tryd.call38, Tryd.call40])
  repeat' (first
    | (with_reducible apply W_seq_k; intro nx hnx)
    | (with_reducible first | apply W_block | apply W_scope)
    | (with_reducible refine W_prune 2015 ?_; simp only [prb, Nat.reducePow, Nat.reduceDiv, Nat.reduceMod, Nat.reduceBEq]; first | (with_reducible apply W_region_l) | with_reducible refine W_region_draw (id := 7) 3 (.op 0 true (.op 1 true (.op 2 true (.op 3 true (.op 4 true (.op 7 true (.op 8 true (.alt 5 false (.alt 6 true (.alt 9 true (.op 10 true (.op 11 true (.op 12 false (.op 13 false (.op 14 false (.done)))))) .stop) (.alt 9 true (.op 10 true (.op 11 true (.alt 6 true (.op 12 false (.op 13 false (.op 14 false (.done)))) .stop))) .stop)) (.alt 6 true (.alt 5 false (.alt 9 true (.op 10 true (.op 11 true (.op 12 false (.op 13 false (.op 14 false (.done)))))) .stop) (.alt 9 true (.op 10 true (.op 11 true (.op 5 false (.op 12 false (.op 13 false (.op 14 false (.done))))))) .stop)) (.alt 9 true (.op 10 true (.op 11 true (.alt 5 false (.alt 6 true (.op 12 false (.op 13 false (.op 14 false (.done)))) .stop) (.alt 6 true (.op 5 false (.op 12 false (.op 13 false (.op 14 false (.done))))) .stop)))) .stop)))))))))) (by kernel_rfl) ?_)
    | ((first | (with_reducible apply WL_op; intro nx hnx) | with_reducible refine Ev_out ?_ | (with_reducible apply popsD_op; intro nx hnx) | (with_reducible refine popsD_alt ?_ ?_; intro nx hnx) | (with_reducible refine pfresh_k hnm fun nm hnm => ?_; (try simp only [fmb] at hnm)) | (with_reducible refine pborn_mu hnm fun nm hnm => ?_; (try simp only [fmb] at hnm))); try (simp (maxSteps := 2000000) (disch := omega) only [evb, evd, pbuiltin, constPV, pnck, seqK, blockK, scopeK, pbin, pun, ppick, plen, piaddr, pindex, pfield, pslice, pbound, pconv, pelems, pextract, pmm, PV.mem?, PV.one, PV.cells, pageq, peqs, peq1, pmakes, pstore, pbytes, pmark, pusd, pust, psrc, pkey, pkeys, pnile, pcap, pgrow, List.set, Value.cells, ↓popG_eq, ↓pop.eq_1, ↓List.getElem?_map, ↓List.getElem?_cons_zero, ↓List.getElem?_cons_succ, Value.oneCell', Nat.reduceAdd, Nat.reduceMul, Nat.reduceSub, Nat.reduceLeDiff, Nat.reduceEqDiff, ↓reduceIte, ne_eq, reduceCtorEq, forall_const, exists_and_left, exists_eq_left', eq_self, Nat.reduceLT, Int.reduceLT, Int.reduceLE, Int.reduceToNat, Int.reduceAdd, Int.reduceSub, Int.reduceNeg, hnm, Tryd.tf0, Tryd.tf1, Tryd.tf3, Tryd.tf4, Tryd.tf5, Tryd.teq22, Tryd.tf23, Tryd.teq23, Tryd.tf28, Tryd.teq28, Tryd.tf45, Tryd.tf69, Tryd.tf73, Tryd.tf74, Tryd.teq82, Tryd.teq83, Tryd.teq89, Tryd.teq103, Tryd.teq106, Tryd.call38, Tryd.call40, hne, hvl, hone, hl2, tk, hm1, hZ2, hZl, hZd, hZo, hca, g0, g1, g2, g3]); repeat (refine And.intro (by omega) ?_))
    | ((with_reducible first | apply WL_nil | apply W_label | apply W_skip | apply W_exit | apply W_ret | apply popsD_done); try simp only [seqK, blockK, scopeK, ↓reduceIte, Nat.reduceEqDiff])
    | with_reducible exact popsD_stop
    | (with_reducible apply W_cond_k; intro _ _ ea eb; (simp only [condK, cob, opnd, constPV, Nat.reduceEqDiff, Nat.reduceLT, ↓reduceIte, hcb, reduceCtorEq, forall_const, ne_eq]); subst ea eb; first | (refine ⟨fun hc => ?_, fun hc => ?_⟩ <;> first | (exfalso; omega) | (exfalso; exact hc trivial) | skip) | skip)
    | (with_reducible apply hnx; clear hnx nx)
    | (with_reducible refine And.intro (by omega) ?_)
    | (with_reducible refine And.intro ?_ ?_)
    | (with_reducible refine pcall_k (c1) ?_; rintro _ _ ⟨rfl, rfl⟩ -; refine Ev_in ?_)
    | ((refine pcall_mid [_, _, _, _] (HM a m M s seed _) [] rfl ih1 ?_; rintro _ _ ⟨rfl, T1, rfl⟩; refine Ev_in ?_))
    | ((refine pcall_mid [_, _, _, _] (HM a m M s seed _) [] rfl (ih2 _) ?_; rintro _ _ ⟨rfl, T2, rfl⟩; refine Ev_in ?_))
    | (clear hnx nx; with_reducible apply hnx; clear hnx nx)
    | (clear hnx nx; clear hnx nx; with_reducible apply hnx; clear hnx nx)
    | (clear hnx nx; clear hnx nx; clear hnx nx; with_reducible apply hnx; clear hnx nx))
  all_goals first
    | exact rfl
    | (by_cases hm2 : (n, k) ∈ T2
       · obtain ⟨j, y1, y2⟩ := hmY T2 hm2
         simp only [y1]
         repeat' (first
    | (with_reducible apply W_seq_k; intro nx hnx)
    | (with_reducible first | apply W_block | apply W_scope)
    | (with_reducible refine W_prune 2015 ?_; simp only [prb, Nat.reducePow, Nat.reduceDiv, Nat.reduceMod, Nat.reduceBEq]; first | (with_reducible apply W_region_l) | with_reducible refine W_region_draw (id := 7) 3 (.op 0 true (.op 1 true (.op 2 true (.op 3 true (.op 4 true (.op 7 true (.op 8 true (.alt 5 false (.alt 6 true (.alt 9 true (.op 10 true (.op 11 true (.op 12 false (.op 13 false (.op 14 false (.done)))))) .stop) (.alt 9 true (.op 10 true (.op 11 true (.alt 6 true (.op 12 false (.op 13 false (.op 14 false (.done)))) .stop))) .stop)) (.alt 6 true (.alt 5 false (.alt 9 true (.op 10 true (.op 11 true (.op 12 false (.op 13 false (.op 14 false (.done)))))) .stop) (.alt 9 true (.op 10 true (.op 11 true (.op 5 false (.op 12 false (.op 13 false (.op 14 false (.done))))))) .stop)) (.alt 9 true (.op 10 true (.op 11 true (.alt 5 false (.alt 6 true (.op 12 false (.op 13 false (.op 14 false (.done)))) .stop) (.alt 6 true (.op 5 false (.op 12 false (.op 13 false (.op 14 false (.done))))) .stop)))) .stop)))))))))) (by kernel_rfl) ?_)
    | ((first | (with_reducible apply WL_op; intro nx hnx) | with_reducible refine Ev_out ?_ | (with_reducible apply popsD_op; intro nx hnx) | (with_reducible refine popsD_alt ?_ ?_; intro nx hnx) | (with_reducible refine pfresh_k hnm fun nm hnm => ?_; (try simp only [fmb] at hnm)) | (with_reducible refine pborn_mu hnm fun nm hnm => ?_; (try simp only [fmb] at hnm))); try (simp (maxSteps := 2000000) (disch := omega) only [evb, evd, pbuiltin, constPV, pnck, seqK, blockK, scopeK, pbin, pun, ppick, plen, piaddr, pindex, pfield, pslice, pbound, pconv, pelems, pextract, pmm, PV.mem?, PV.one, PV.cells, pageq, peqs, peq1, pmakes, pstore, pbytes, pmark, pusd, pust, psrc, pkey, pkeys, pnile, pcap, pgrow, List.set, Value.cells, ↓popG_eq, ↓pop.eq_1, ↓List.getElem?_map, ↓List.getElem?_cons_zero, ↓List.getElem?_cons_succ, Value.oneCell', Nat.reduceAdd, Nat.reduceMul, Nat.reduceSub, Nat.reduceLeDiff, Nat.reduceEqDiff, ↓reduceIte, ne_eq, reduceCtorEq, forall_const, exists_and_left, exists_eq_left', eq_self, Nat.reduceLT, Int.reduceLT, Int.reduceLE, Int.reduceToNat, Int.reduceAdd, Int.reduceSub, Int.reduceNeg, hnm, Tryd.tf0, Tryd.tf1, Tryd.tf3, Tryd.tf4, Tryd.tf5, Tryd.teq22, Tryd.tf23, Tryd.teq23, Tryd.tf28, Tryd.teq28, Tryd.tf45, Tryd.tf69, Tryd.tf73, Tryd.tf74, Tryd.teq82, Tryd.teq83, Tryd.teq89, Tryd.teq103, Tryd.teq106, Tryd.call38, Tryd.call40, hne, hone, hl2, tk, y2, hZ2, hZl, hZd, hZo]); repeat (refine And.intro (by omega) ?_))
    | ((with_reducible first | apply WL_nil | apply W_label | apply W_skip | apply W_exit | apply W_ret | apply popsD_done); try simp only [seqK, blockK, scopeK, ↓reduceIte, Nat.reduceEqDiff])
    | with_reducible exact popsD_stop
    | (with_reducible apply W_cond_k; intro _ _ ea eb; (simp only [condK, cob, opnd, constPV, Nat.reduceEqDiff, Nat.reduceLT, ↓reduceIte, hcb, reduceCtorEq, forall_const, ne_eq]); subst ea eb; first | (refine ⟨fun hc => ?_, fun hc => ?_⟩ <;> first | (exfalso; omega) | (exfalso; exact hc trivial) | skip) | skip)
    | (with_reducible apply hnx; clear hnx nx)
    | (with_reducible refine And.intro (by omega) ?_)
    | (with_reducible refine And.intro ?_ ?_)
    | (clear hnx nx; with_reducible apply hnx; clear hnx nx)
    | (clear hnx nx; clear hnx nx; with_reducible apply hnx; clear hnx nx)
    | (clear hnx nx; clear hnx nx; clear hnx nx; with_reducible apply hnx; clear hnx nx))
         all_goals first
           | exact rfl
           | (refine hfin _ _ ?_
              exact Fin_digH (n := _) (H := HM a m M s seed T2) (by simp only [fr_getD_cons, Nat.reduceEqDiff, Nat.reduceLT, ↓reduceIte]; rfl) (by simp [look, hnm]) hvl ⟨by simp, nd⟩ (hfin2 T2))
       · have y1 := hmN T2 hm2
         simp only [y1]
         have y2 := hap T2
         repeat' (first
    | (with_reducible apply W_seq_k; intro nx hnx)
    | (with_reducible first | apply W_block | apply W_scope)
    | (with_reducible refine W_prune 2015 ?_; simp only [prb, Nat.reducePow, Nat.reduceDiv, Nat.reduceMod, Nat.reduceBEq]; first | (with_reducible apply W_region_l) | with_reducible refine W_region_draw (id := 7) 3 (.op 0 true (.op 1 true (.op 2 true (.op 3 true (.op 4 true (.op 7 true (.op 8 true (.alt 5 false (.alt 6 true (.alt 9 true (.op 10 true (.op 11 true (.op 12 false (.op 13 false (.op 14 false (.done)))))) .stop) (.alt 9 true (.op 10 true (.op 11 true (.alt 6 true (.op 12 false (.op 13 false (.op 14 false (.done)))) .stop))) .stop)) (.alt 6 true (.alt 5 false (.alt 9 true (.op 10 true (.op 11 true (.op 12 false (.op 13 false (.op 14 false (.done)))))) .stop) (.alt 9 true (.op 10 true (.op 11 true (.op 5 false (.op 12 false (.op 13 false (.op 14 false (.done))))))) .stop)) (.alt 9 true (.op 10 true (.op 11 true (.alt 5 false (.alt 6 true (.op 12 false (.op 13 false (.op 14 false (.done)))) .stop) (.alt 6 true (.op 5 false (.op 12 false (.op 13 false (.op 14 false (.done))))) .stop)))) .stop)))))))))) (by kernel_rfl) ?_)
    | ((first | (with_reducible apply WL_op; intro nx hnx) | with_reducible refine Ev_out ?_ | (with_reducible apply popsD_op; intro nx hnx) | (with_reducible refine popsD_alt ?_ ?_; intro nx hnx) | (with_reducible refine pfresh_k hnm fun nm hnm => ?_; (try simp only [fmb] at hnm)) | (with_reducible refine pborn_mu hnm fun nm hnm => ?_; (try simp only [fmb] at hnm))); try (simp (maxSteps := 2000000) (disch := omega) only [evb, evd, pbuiltin, constPV, pnck, seqK, blockK, scopeK, pbin, pun, ppick, plen, piaddr, pindex, pfield, pslice, pbound, pconv, pelems, pextract, pmm, PV.mem?, PV.one, PV.cells, pageq, peqs, peq1, pmakes, pstore, pbytes, pmark, pusd, pust, psrc, pkey, pkeys, pnile, pcap, pgrow, List.set, Value.cells, ↓popG_eq, ↓pop.eq_1, ↓List.getElem?_map, ↓List.getElem?_cons_zero, ↓List.getElem?_cons_succ, Value.oneCell', Nat.reduceAdd, Nat.reduceMul, Nat.reduceSub, Nat.reduceLeDiff, Nat.reduceEqDiff, ↓reduceIte, ne_eq, reduceCtorEq, forall_const, exists_and_left, exists_eq_left', eq_self, Nat.reduceLT, Int.reduceLT, Int.reduceLE, Int.reduceToNat, Int.reduceAdd, Int.reduceSub, Int.reduceNeg, hnm, Tryd.tf0, Tryd.tf1, Tryd.tf3, Tryd.tf4, Tryd.tf5, Tryd.teq22, Tryd.tf23, Tryd.teq23, Tryd.tf28, Tryd.teq28, Tryd.tf45, Tryd.tf69, Tryd.tf73, Tryd.tf74, Tryd.teq82, Tryd.teq83, Tryd.teq89, Tryd.teq103, Tryd.teq106, Tryd.call38, Tryd.call40, hne, hone, hl2, tk, y2, hZ2, hZl, hZd, hZo]); repeat (refine And.intro (by omega) ?_))
    | ((with_reducible first | apply WL_nil | apply W_label | apply W_skip | apply W_exit | apply W_ret | apply popsD_done); try simp only [seqK, blockK, scopeK, ↓reduceIte, Nat.reduceEqDiff])
    | with_reducible exact popsD_stop
    | (with_reducible apply W_cond_k; intro _ _ ea eb; (simp only [condK, cob, opnd, constPV, Nat.reduceEqDiff, Nat.reduceLT, ↓reduceIte, hcb, reduceCtorEq, forall_const, ne_eq]); subst ea eb; first | (refine ⟨fun hc => ?_, fun hc => ?_⟩ <;> first | (exfalso; omega) | (exfalso; exact hc trivial) | skip) | skip)
    | (with_reducible apply hnx; clear hnx nx)
    | (with_reducible refine And.intro (by omega) ?_)
    | (with_reducible refine And.intro ?_ ?_)
    | (clear hnx nx; with_reducible apply hnx; clear hnx nx)
    | (clear hnx nx; clear hnx nx; with_reducible apply hnx; clear hnx nx)
    | (clear hnx nx; clear hnx nx; clear hnx nx; with_reducible apply hnx; clear hnx nx))
         all_goals first
           | exact rfl
           | (refine hfin _ _ ?_
              exact Fin_digH (n := _) (H := HM a m M s seed (T2 ++ [(n, k)])) (by simp only [fr_getD_cons, Nat.reduceEqDiff, Nat.reduceLT, ↓reduceIte]; rfl) (by simp [look, hnm]) hvl ⟨by simp, nd⟩ (hfin2 _)))
theorem node_at (G : Globs) (hG : G 1 = .iptr (KS.map pw) 0) (seed : List UInt8) (hs : seed.length ≤ 4000) (a m M s : Int) :
    ∀ (l k : Nat) (T : List (Nat × Nat)), l ≤ 6 → (k + 1) * 2 ^ l ≤ 1000000 → PCalls Tryd.prog G 44 [pint .i64 l, pint .i64 k, .ptr m 0, .ptr s 0, .ptr a 0] (HM a m M s seed T) (NRes a m M s seed l k)
  | l, k, T, hl, hk => by
    by_cases hm : (l, k) ∈ T
    · exact node_hit G seed a m M s l k T hm
    · match l, hl, hk, hm with
      | 0, hl, hk, hm => exact node_zero G hG seed hs a m M s k (by omega) T hm
      | l + 1, hl, hk, hm =>
        have hp : 0 < 2 ^ l := Nat.pow_pos (by omega)
        have hb : (2 * k + 1 + 1) * 2 ^ l ≤ 1000000 := by
          rw [Nat.pow_succ, Nat.mul_comm (2 ^ l) 2, ← Nat.mul_assoc] at hk
          rw [show 2 * k + 1 + 1 = (k + 1) * 2 by omega]
          exact hk
        have hb2 : (2 * k + 1) * 2 ^ l ≤ 1000000 := Nat.le_trans (Nat.mul_le_mul_right _ (by omega)) hb
        have hk6 : k ≤ 1000000 := by
          have : 2 * k + 1 + 1 ≤ (2 * k + 1 + 1) * 2 ^ l := Nat.le_mul_of_pos_right _ hp
          omega
        exact node_succ G hG seed a m M s l k (l + 1) (2 * k) (2 * k + 1) (by omega) hk6 rfl rfl rfl T hm (node_at G hG seed hs a m M s l (2 * k) T (by omega) hb2) (fun T' => node_at G hG seed hs a m M s l (2 * k + 1) T' (by omega) hb)
end Go.PM

namespace Go.PM
open Go.Proofs
attribute [local irreducible] W PCalls pcall pcallI WL
set_option maxRecDepth 100000 in
set_option maxHeartbeats 8000000 in
theorem nodes_c (G : Globs) (seed : List UInt8) : PCalls Tryd.prog G 22 [pstr seed] [] (fun res H => ∃ a m M s, res = .func 44 [.ptr m 0, .ptr s 0, .ptr a 0] ∧ H = HM a m M s seed []) := by
  (refine PCalls_f Tryd.func22 rfl Tryd.ntmps22 Tryd.results22 (by simp) fun fin hfin => ?_; have hnm : True := trivial; simp (maxSteps := 2000000) (disch := omega) only [evb, evd, pbuiltin, constPV, pnck, seqK, blockK, scopeK, pbin, pun, ppick, plen, piaddr, pindex, pfield, pslice, pbound, pconv, pelems, pextract, pmm, PV.mem?, PV.one, PV.cells, pageq, peqs, peq1, pmakes, pstore, pbytes, pmark, pusd, pust, psrc, pkey, pkeys, pnile, pcap, pgrow, List.set, Value.cells, ↓popG_eq, ↓pop.eq_1, ↓List.getElem?_map, ↓List.getElem?_cons_zero, ↓List.getElem?_cons_succ, Value.oneCell', Nat.reduceAdd, Nat.reduceMul, Nat.reduceSub, Nat.reduceLeDiff, Nat.reduceEqDiff, ↓reduceIte, ne_eq, reduceCtorEq, forall_const, exists_and_left, exists_eq_left', eq_self, Nat.reduceLT, Int.reduceLT, Int.reduceLE, Int.reduceToNat, Int.reduceAdd, Int.reduceSub, Int.reduceNeg, hnm, Tryd.tf0, Tryd.tf9, Tryd.teq22, Tryd.teq23, Tryd.teq28, Tryd.tf45, Tryd.tf73, Tryd.teq82, Tryd.teq83, Tryd.teq89, Tryd.teq103, Tryd.teq106])
  repeat' (first
    | (with_reducible apply W_seq_k; intro nx hnx)
    | (with_reducible first | apply W_block | apply W_scope)
    | (with_reducible refine W_prune 31 ?_; simp only [prb, Nat.reducePow, Nat.reduceDiv, Nat.reduceMod, Nat.reduceBEq]; with_reducible apply W_region_l)
    | ((first | (with_reducible apply WL_op; intro nx hnx) | with_reducible refine Ev_out ?_ | (with_reducible refine pfresh_k hnm fun nm hnm => ?_; (try simp only [fmb] at hnm)) | (with_reducible refine pborn_mu hnm fun nm hnm => ?_; (try simp only [fmb] at hnm))); try (simp (maxSteps := 2000000) (disch := omega) only [evb, evd, pbuiltin, constPV, pnck, seqK, blockK, scopeK, pbin, pun, ppick, plen, piaddr, pindex, pfield, pslice, pbound, pconv, pelems, pextract, pmm, PV.mem?, PV.one, PV.cells, pageq, peqs, peq1, pmakes, pstore, pbytes, pmark, pusd, pust, psrc, pkey, pkeys, pnile, pcap, pgrow, List.set, Value.cells, ↓popG_eq, ↓pop.eq_1, ↓List.getElem?_map, ↓List.getElem?_cons_zero, ↓List.getElem?_cons_succ, Value.oneCell', Nat.reduceAdd, Nat.reduceMul, Nat.reduceSub, Nat.reduceLeDiff, Nat.reduceEqDiff, ↓reduceIte, ne_eq, reduceCtorEq, forall_const, exists_and_left, exists_eq_left', eq_self, Nat.reduceLT, Int.reduceLT, Int.reduceLE, Int.reduceToNat, Int.reduceAdd, Int.reduceSub, Int.reduceNeg, hnm, Tryd.tf0, Tryd.tf9, Tryd.teq22, Tryd.teq23, Tryd.teq28, Tryd.tf45, Tryd.tf73, Tryd.teq82, Tryd.teq83, Tryd.teq89, Tryd.teq103, Tryd.teq106]); repeat (refine And.intro (by omega) ?_))
    | ((with_reducible first | apply WL_nil | apply W_label | apply W_skip | apply W_exit | apply W_ret); try simp only [seqK, blockK, scopeK, ↓reduceIte, Nat.reduceEqDiff])
    | (with_reducible apply W_cond_k; intro _ _ ea eb; (simp only [condK, cob, opnd, constPV, Nat.reduceEqDiff, Nat.reduceLT, ↓reduceIte, hcb, reduceCtorEq, forall_const, ne_eq]); subst ea eb; first | (refine ⟨fun hc => ?_, fun hc => ?_⟩ <;> first | (exfalso; omega) | (exfalso; exact hc trivial) | skip) | skip)
    | (with_reducible apply hnx; clear hnx nx)
    | (with_reducible refine And.intro (by omega) ?_)
    | (with_reducible refine And.intro ?_ ?_)
    | (clear hnx nx; with_reducible apply hnx; clear hnx nx)
    | (clear hnx nx; clear hnx nx; with_reducible apply hnx; clear hnx nx)
    | (clear hnx nx; clear hnx nx; clear hnx nx; with_reducible apply hnx; clear hnx nx))
  obtain ⟨NA, hNA⟩ : ∃ N, N = nm := ⟨_, rfl⟩
  subst hNA
  obtain ⟨NM, hNM⟩ : ∃ N, N = nm := ⟨_, rfl⟩
  subst hNM
  obtain ⟨NP, hNP⟩ : ∃ N, N = nm := ⟨_, rfl⟩
  subst hNP
  obtain ⟨NS, hNS⟩ : ∃ N, N = nm := ⟨_, rfl⟩
  subst hNS
  refine hfin _ _ (Fin_ret1 rfl (Sub_refl (by simp [names, hnm])) ?_); simp only [List.getD_cons_zero, List.getD_cons_succ, fr_getD_cons, fr_getD_nil, Nat.reduceEqDiff, Nat.reduceLT, ↓reduceIte]
  exact ⟨NA, NM, NP, NS, rfl, rfl⟩
set_option maxRecDepth 100000 in
set_option maxHeartbeats 8000000 in
theorem hpub_c (G : Globs) (hG : G 1 = .iptr (KS.map pw) 0) (seed : List UInt8) (n : Int) (hs : seed.length ≤ 4000) :
    PCalls Tryd.prog G 12 [pstr seed, pint .i64 n] [] (fun res H => res = .tuple [.agg ((pubF seed n).1.map pbyte), pint .i64 (pubF seed n).2] ∧ H = []) := by
  have c0 := valid_c G n
  have hfl := pubF_len seed n
  (refine PCalls_f Tryd.func12 rfl Tryd.ntmps12 Tryd.results12 (by simp) fun fin hfin => ?_; have hnm : True := trivial; simp (maxSteps := 2000000) (disch := omega) only [evb, evd, pbuiltin, constPV, pnck, seqK, blockK, scopeK, pbin, pun, ppick, plen, piaddr, pindex, pfield, pslice, pbound, pconv, pelems, pextract, pmm, PV.mem?, PV.one, PV.cells, pageq, peqs, peq1, pmakes, pstore, pbytes, pmark, pusd, pust, psrc, pkey, pkeys, pnile, pcap, pgrow, List.set, Value.cells, ↓popG_eq, ↓pop.eq_1, ↓List.getElem?_map, ↓List.getElem?_cons_zero, ↓List.getElem?_cons_succ, Value.oneCell', Nat.reduceAdd, Nat.reduceMul, Nat.reduceSub, Nat.reduceLeDiff, Nat.reduceEqDiff, ↓reduceIte, ne_eq, reduceCtorEq, forall_const, exists_and_left, exists_eq_left', eq_self, Nat.reduceLT, Int.reduceLT, Int.reduceLE, Int.reduceToNat, Int.reduceAdd, Int.reduceSub, Int.reduceNeg, hnm, Tryd.tf0, Tryd.tf3, Tryd.tf4, Tryd.tf5, Tryd.tf9, Tryd.teq22, Tryd.tf23, Tryd.teq23, Tryd.teq28, Tryd.tf29, Tryd.tf45, Tryd.teq82, Tryd.teq83, Tryd.teq89, Tryd.teq103, Tryd.teq106, Tryd.call21, Tryd.call22])
  by_cases hf : seed.length = 32 ∧ 0 ≤ n ∧ n ≤ 6
  · have hp : pubF seed n = (nodeV seed n.toNat 0, 0) := by rw [pubF, if_pos hf]
    rw [hp] at hfl
    simp only [hp] at hfin
    rw [decide_eq_true hf.2] at c0
    obtain ⟨h, rfl⟩ : ∃ h : Nat, n = h := ⟨n.toNat, by omega⟩
    simp only [Int.toNat_natCast] at hfl hfin
    have hl := hf.1
    have hpw := pow_le64 h (by omega)
    have hca : callable Tryd.prog 44 = true := by kernel_rfl
    repeat' (first
    | (with_reducible apply W_seq_k; intro nx hnx)
    | (with_reducible first | apply W_block | apply W_scope)
    | (with_reducible refine W_prune 51 ?_; simp only [prb, Nat.reducePow, Nat.reduceDiv, Nat.reduceMod, Nat.reduceBEq]; with_reducible apply W_region_l)
    | ((first | (with_reducible apply WL_op; intro nx hnx) | with_reducible refine Ev_out ?_ | (with_reducible refine pfresh_k hnm fun nm hnm => ?_; (try simp only [fmb] at hnm)) | (with_reducible refine pborn_mu hnm fun nm hnm => ?_; (try simp only [fmb] at hnm))); try (simp (maxSteps := 2000000) (disch := omega) only [evb, evd, pbuiltin, constPV, pnck, seqK, blockK, scopeK, pbin, pun, ppick, plen, piaddr, pindex, pfield, pslice, pbound, pconv, pelems, pextract, pmm, PV.mem?, PV.one, PV.cells, pageq, peqs, peq1, pmakes, pstore, pbytes, pmark, pusd, pust, psrc, pkey, pkeys, pnile, pcap, pgrow, List.set, Value.cells, ↓popG_eq, ↓pop.eq_1, ↓List.getElem?_map, ↓List.getElem?_cons_zero, ↓List.getElem?_cons_succ, Value.oneCell', Nat.reduceAdd, Nat.reduceMul, Nat.reduceSub, Nat.reduceLeDiff, Nat.reduceEqDiff, ↓reduceIte, ne_eq, reduceCtorEq, forall_const, exists_and_left, exists_eq_left', eq_self, Nat.reduceLT, Int.reduceLT, Int.reduceLE, Int.reduceToNat, Int.reduceAdd, Int.reduceSub, Int.reduceNeg, hnm, Tryd.tf0, Tryd.tf3, Tryd.tf4, Tryd.tf5, Tryd.tf9, Tryd.teq22, Tryd.tf23, Tryd.teq23, Tryd.teq28, Tryd.tf29, Tryd.tf45, Tryd.teq82, Tryd.teq83, Tryd.teq89, Tryd.teq103, Tryd.teq106, Tryd.call21, Tryd.call22, hl]); repeat (refine And.intro (by omega) ?_))
    | ((with_reducible first | apply WL_nil | apply W_label | apply W_skip | apply W_exit | apply W_ret); try simp only [seqK, blockK, scopeK, ↓reduceIte, Nat.reduceEqDiff])
    | (with_reducible apply pguard_intro <;> (intro hc; (try simp only [hcb, reduceCtorEq, forall_const, ne_eq] at hc); first | (exfalso; omega) | (exfalso; exact hc trivial) | refine Ev_in ?_))
    | (with_reducible apply W_cond_k; intro _ _ ea eb; (simp only [condK, cob, opnd, constPV, Nat.reduceEqDiff, Nat.reduceLT, ↓reduceIte, hcb, reduceCtorEq, forall_const, ne_eq]); subst ea eb; first | (refine ⟨fun hc => ?_, fun hc => ?_⟩ <;> first | (exfalso; omega) | (exfalso; exact hc trivial) | skip) | skip)
    | (with_reducible apply hnx; clear hnx nx)
    | (with_reducible refine And.intro (by omega) ?_)
    | (with_reducible refine And.intro ?_ ?_)
    | (with_reducible refine pcall_k (c0) ?_; rintro _ _ ⟨rfl, rfl⟩ -; refine Ev_in ?_)
    | (clear hnx nx; with_reducible apply hnx; clear hnx nx)
    | (clear hnx nx; clear hnx nx; with_reducible apply hnx; clear hnx nx)
    | (clear hnx nx; clear hnx nx; clear hnx nx; with_reducible apply hnx; clear hnx nx))
    all_goals first
      | exact absurd trivial hc
      | exact rfl
      | (exfalso
         omega)
      | (intro hh
         exfalso
         simp at hh
         done)
      | skip
    obtain ⟨NT, hNT⟩ : ∃ N, N = nm := ⟨_, rfl⟩
    subst hNT
    refine pcall_k (nodes_c G seed) ?_
    rintro _ _ ⟨a, m, M, s, rfl, rfl⟩ hd
    have hd2 : (a = NT) = False ∧ (m = NT) = False ∧ (M = NT) = False ∧ (s = NT) = False := by
      have h1 : ∀ x ∈ [a, m, M, s], x ≠ NT := fun x hx e => hd x hx (by simp [names, e])
      exact ⟨eq_false (h1 a (by simp)), eq_false (h1 m (by simp)), eq_false (h1 M (by simp)), eq_false (h1 s (by simp))⟩
    have cn := node_at G hG seed hs a m M s h 0 [] (by omega) (by omega)
    have cn : PCalls Tryd.prog G 44 [pint .i64 h, .val (.int .i64 0), .ptr m 0, .ptr s 0, .ptr a 0] (HM a m M s seed []) (NRes a m M s seed h 0) := cn
    have hRf : ∀ res H, NRes a m M s seed h 0 res H → res = .agg ((nodeV seed h 0).map pbyte) ∧ ∃ T', H = HM a m M s seed T' := fun _ _ h => h
    generalize NRes a m M s seed h 0 = R at *
    generalize nodeV seed h 0 = v at *
    have ho := all_one_byte v
    have hl2 : (v.map pbyte).length = 16 := by rw [List.length_map, hfl]
    have tv : List.take 16 (v.map pbyte) = v.map pbyte := List.take_of_length_le (by omega)
    refine Ev_in ?_
    repeat' (first
    | (with_reducible apply W_seq_k; intro nx hnx)
    | (with_reducible first | apply W_block | apply W_scope)
    | (with_reducible refine W_prune 51 ?_; simp only [prb, Nat.reducePow, Nat.reduceDiv, Nat.reduceMod, Nat.reduceBEq]; with_reducible apply W_region_l)
    | ((first | (with_reducible apply WL_op; intro nx hnx) | with_reducible refine Ev_out ?_ | (with_reducible refine pfresh_k hnm fun nm hnm => ?_; (try simp only [fmb] at hnm)) | (with_reducible refine pborn_mu hnm fun nm hnm => ?_; (try simp only [fmb] at hnm))); try (simp (maxSteps := 2000000) (disch := omega) only [evb, evd, pbuiltin, constPV, pnck, seqK, blockK, scopeK, pbin, pun, ppick, plen, piaddr, pindex, pfield, pslice, pbound, pconv, pelems, pextract, pmm, PV.mem?, PV.one, PV.cells, pageq, peqs, peq1, pmakes, pstore, pbytes, pmark, pusd, pust, psrc, pkey, pkeys, pnile, pcap, pgrow, List.set, Value.cells, ↓popG_eq, ↓pop.eq_1, ↓List.getElem?_map, ↓List.getElem?_cons_zero, ↓List.getElem?_cons_succ, Value.oneCell', Nat.reduceAdd, Nat.reduceMul, Nat.reduceSub, Nat.reduceLeDiff, Nat.reduceEqDiff, ↓reduceIte, ne_eq, reduceCtorEq, forall_const, exists_and_left, exists_eq_left', eq_self, Nat.reduceLT, Int.reduceLT, Int.reduceLE, Int.reduceToNat, Int.reduceAdd, Int.reduceSub, Int.reduceNeg, hnm, Tryd.tf0, Tryd.tf3, Tryd.tf4, Tryd.tf5, Tryd.tf9, Tryd.teq22, Tryd.tf23, Tryd.teq23, Tryd.teq28, Tryd.tf29, Tryd.tf45, Tryd.teq82, Tryd.teq83, Tryd.teq89, Tryd.teq103, Tryd.teq106, Tryd.call21, Tryd.call22, hca, hd2, ho, hl2, tv]); repeat (refine And.intro (by omega) ?_))
    | ((with_reducible first | apply WL_nil | apply W_label | apply W_skip | apply W_exit | apply W_ret); try simp only [seqK, blockK, scopeK, ↓reduceIte, Nat.reduceEqDiff])
    | (with_reducible apply pguard_intro <;> (intro hc; (try simp only [hcb, reduceCtorEq, forall_const, ne_eq] at hc); first | (exfalso; omega) | (exfalso; exact hc trivial) | refine Ev_in ?_))
    | (with_reducible apply W_cond_k; intro _ _ ea eb; (simp only [condK, cob, opnd, constPV, Nat.reduceEqDiff, Nat.reduceLT, ↓reduceIte, hcb, reduceCtorEq, forall_const, ne_eq]); subst ea eb; first | (refine ⟨fun hc => ?_, fun hc => ?_⟩ <;> first | (exfalso; omega) | (exfalso; exact hc trivial) | skip) | skip)
    | (with_reducible apply hnx; clear hnx nx)
    | (with_reducible refine And.intro (by omega) ?_)
    | (with_reducible refine And.intro ?_ ?_)
    | ((refine pcall_mid [] (HM a m M s seed []) [_] rfl cn ?_; intro r1 H1 hr1; obtain ⟨rfl, T1, rfl⟩ := hRf _ _ hr1; refine Ev_in ?_))
    | (clear hnx nx; with_reducible apply hnx; clear hnx nx)
    | (clear hnx nx; clear hnx nx; with_reducible apply hnx; clear hnx nx)
    | (clear hnx nx; clear hnx nx; clear hnx nx; with_reducible apply hnx; clear hnx nx))
    all_goals first
      | exact absurd trivial hc
      | exact rfl
      | (exfalso
         omega)
      | (refine hfin _ _ ?_
         exact Fin_dig2 (n := NT) (by simp only [fr_getD_cons, Nat.reduceEqDiff, Nat.reduceLT, ↓reduceIte]) (by simp [look, hd2]) hfl (by simp only [fr_getD_cons, Nat.reduceEqDiff, Nat.reduceLT, ↓reduceIte]) ⟨rfl, rfl⟩)
  · have hp : pubF seed n = (List.replicate 16 0, 1) := by rw [pubF, if_neg hf]
    simp only [hp] at hfin
    by_cases hl : seed.length = 32
    · have hv : ¬ (0 ≤ n ∧ n ≤ 6) := fun h => hf ⟨hl, h⟩
      rw [decide_eq_false hv] at c0
      repeat' (first
    | (with_reducible apply W_seq_k; intro nx hnx)
    | (with_reducible first | apply W_block | apply W_scope)
    | (with_reducible refine W_prune 51 ?_; simp only [prb, Nat.reducePow, Nat.reduceDiv, Nat.reduceMod, Nat.reduceBEq]; with_reducible apply W_region_l)
    | ((first | (with_reducible apply WL_op; intro nx hnx) | with_reducible refine Ev_out ?_ | (with_reducible refine pfresh_k hnm fun nm hnm => ?_; (try simp only [fmb] at hnm)) | (with_reducible refine pborn_mu hnm fun nm hnm => ?_; (try simp only [fmb] at hnm))); try (simp (maxSteps := 2000000) (disch := omega) only [evb, evd, pbuiltin, constPV, pnck, seqK, blockK, scopeK, pbin, pun, ppick, plen, piaddr, pindex, pfield, pslice, pbound, pconv, pelems, pextract, pmm, PV.mem?, PV.one, PV.cells, pageq, peqs, peq1, pmakes, pstore, pbytes, pmark, pusd, pust, psrc, pkey, pkeys, pnile, pcap, pgrow, List.set, Value.cells, ↓popG_eq, ↓pop.eq_1, ↓List.getElem?_map, ↓List.getElem?_cons_zero, ↓List.getElem?_cons_succ, Value.oneCell', Nat.reduceAdd, Nat.reduceMul, Nat.reduceSub, Nat.reduceLeDiff, Nat.reduceEqDiff, ↓reduceIte, ne_eq, reduceCtorEq, forall_const, exists_and_left, exists_eq_left', eq_self, Nat.reduceLT, Int.reduceLT, Int.reduceLE, Int.reduceToNat, Int.reduceAdd, Int.reduceSub, Int.reduceNeg, hnm, Tryd.tf0, Tryd.tf3, Tryd.tf4, Tryd.tf5, Tryd.tf9, Tryd.teq22, Tryd.tf23, Tryd.teq23, Tryd.teq28, Tryd.tf29, Tryd.tf45, Tryd.teq82, Tryd.teq83, Tryd.teq89, Tryd.teq103, Tryd.teq106, Tryd.call21, Tryd.call22, hl]); repeat (refine And.intro (by omega) ?_))
    | ((with_reducible first | apply WL_nil | apply W_label | apply W_skip | apply W_exit | apply W_ret); try simp only [seqK, blockK, scopeK, ↓reduceIte, Nat.reduceEqDiff])
    | (with_reducible apply pguard_intro <;> (intro hc; (try simp only [hcb, reduceCtorEq, forall_const, ne_eq] at hc); first | (exfalso; omega) | (exfalso; exact hc trivial) | refine Ev_in ?_))
    | (with_reducible apply W_cond_k; intro _ _ ea eb; (simp only [condK, cob, opnd, constPV, Nat.reduceEqDiff, Nat.reduceLT, ↓reduceIte, hcb, reduceCtorEq, forall_const, ne_eq]); subst ea eb; first | (refine ⟨fun hc => ?_, fun hc => ?_⟩ <;> first | (exfalso; omega) | (exfalso; exact hc trivial) | skip) | skip)
    | (with_reducible apply hnx; clear hnx nx)
    | (with_reducible refine And.intro (by omega) ?_)
    | (with_reducible refine And.intro ?_ ?_)
    | (with_reducible refine pcall_k (c0) ?_; rintro _ _ ⟨rfl, rfl⟩ -; refine Ev_in ?_)
    | (clear hnx nx; with_reducible apply hnx; clear hnx nx)
    | (clear hnx nx; clear hnx nx; with_reducible apply hnx; clear hnx nx)
    | (clear hnx nx; clear hnx nx; clear hnx nx; with_reducible apply hnx; clear hnx nx))
      all_goals first
        | exact absurd trivial hc
        | exact rfl
        | (exfalso
           omega)
        | (intro hh
           exfalso
           simp at hh
           done)
        | (refine hfin _ _ ?_
           exact Fin_dig2 (n := nm) (f := List.replicate 16 0) (by simp only [fr_getD_cons, Nat.reduceEqDiff, Nat.reduceLT, ↓reduceIte]) (by simp only [look, ↓reduceIte]; rfl) (by simp) (by simp only [fr_getD_cons, Nat.reduceEqDiff, Nat.reduceLT, ↓reduceIte]) ⟨rfl, rfl⟩)
    · have hl' : ¬ (seed.length : Int) = 32 := by omega
      repeat' (first
    | (with_reducible apply W_seq_k; intro nx hnx)
    | (with_reducible first | apply W_block | apply W_scope)
    | (with_reducible refine W_prune 51 ?_; simp only [prb, Nat.reducePow, Nat.reduceDiv, Nat.reduceMod, Nat.reduceBEq]; with_reducible apply W_region_l)
    | ((first | (with_reducible apply WL_op; intro nx hnx) | with_reducible refine Ev_out ?_ | (with_reducible refine pfresh_k hnm fun nm hnm => ?_; (try simp only [fmb] at hnm)) | (with_reducible refine pborn_mu hnm fun nm hnm => ?_; (try simp only [fmb] at hnm))); try (simp (maxSteps := 2000000) (disch := omega) only [evb, evd, pbuiltin, constPV, pnck, seqK, blockK, scopeK, pbin, pun, ppick, plen, piaddr, pindex, pfield, pslice, pbound, pconv, pelems, pextract, pmm, PV.mem?, PV.one, PV.cells, pageq, peqs, peq1, pmakes, pstore, pbytes, pmark, pusd, pust, psrc, pkey, pkeys, pnile, pcap, pgrow, List.set, Value.cells, ↓popG_eq, ↓pop.eq_1, ↓List.getElem?_map, ↓List.getElem?_cons_zero, ↓List.getElem?_cons_succ, Value.oneCell', Nat.reduceAdd, Nat.reduceMul, Nat.reduceSub, Nat.reduceLeDiff, Nat.reduceEqDiff, ↓reduceIte, ne_eq, reduceCtorEq, forall_const, exists_and_left, exists_eq_left', eq_self, Nat.reduceLT, Int.reduceLT, Int.reduceLE, Int.reduceToNat, Int.reduceAdd, Int.reduceSub, Int.reduceNeg, hnm, Tryd.tf0, Tryd.tf3, Tryd.tf4, Tryd.tf5, Tryd.tf9, Tryd.teq22, Tryd.tf23, Tryd.teq23, Tryd.teq28, Tryd.tf29, Tryd.tf45, Tryd.teq82, Tryd.teq83, Tryd.teq89, Tryd.teq103, Tryd.teq106, Tryd.call21, Tryd.call22, hl', hl]); repeat (refine And.intro (by omega) ?_))
    | ((with_reducible first | apply WL_nil | apply W_label | apply W_skip | apply W_exit | apply W_ret); try simp only [seqK, blockK, scopeK, ↓reduceIte, Nat.reduceEqDiff])
    | (with_reducible apply pguard_intro <;> (intro hc; (try simp only [hcb, reduceCtorEq, forall_const, ne_eq] at hc); first | (exfalso; omega) | (exfalso; exact hc trivial) | refine Ev_in ?_))
    | (with_reducible apply W_cond_k; intro _ _ ea eb; (simp only [condK, cob, opnd, constPV, Nat.reduceEqDiff, Nat.reduceLT, ↓reduceIte, hcb, reduceCtorEq, forall_const, ne_eq]); subst ea eb; first | (refine ⟨fun hc => ?_, fun hc => ?_⟩ <;> first | (exfalso; omega) | (exfalso; exact hc trivial) | skip) | skip)
    | (with_reducible apply hnx; clear hnx nx)
    | (with_reducible refine And.intro (by omega) ?_)
    | (with_reducible refine And.intro ?_ ?_)
    | (with_reducible refine pcall_k (c0) ?_; rintro _ _ ⟨rfl, rfl⟩ -; refine Ev_in ?_)
    | (clear hnx nx; with_reducible apply hnx; clear hnx nx)
    | (clear hnx nx; clear hnx nx; with_reducible apply hnx; clear hnx nx)
    | (clear hnx nx; clear hnx nx; clear hnx nx; with_reducible apply hnx; clear hnx nx))
      all_goals first
        | exact absurd trivial hc
        | exact rfl
        | (exfalso
           omega)
        | (intro hh
           exfalso
           simp at hh
           done)
        | (refine hfin _ _ ?_
           exact Fin_dig2 (n := nm) (f := List.replicate 16 0) (by simp only [fr_getD_cons, Nat.reduceEqDiff, Nat.reduceLT, ↓reduceIte]) (by simp only [look, ↓reduceIte]; rfl) (by simp) (by simp only [fr_getD_cons, Nat.reduceEqDiff, Nat.reduceLT, ↓reduceIte]) ⟨rfl, rfl⟩)
end Go.PM

namespace Go.PM
open Go.Proofs
attribute [local irreducible] W PCalls pcall pcallI WL
theorem shr_op (k l : Nat) (hl : l ≤ 6) : Int.fdiv (k : Int) (2 ^ min l IntKind.i64.bits) = ((k / 2 ^ l : Nat) : Int) := by
  have h1 : min l IntKind.i64.bits = l := by simp only [IntKind.bits]; omega
  rw [h1, Int.fdiv_eq_ediv_of_nonneg _ (by exact_mod_cast Nat.zero_le _)]
  norm_cast
theorem xor_sib : ∀ j : _root_.Fin 128, bits .xor .i64 (j.val : Int) 1 = ((sib j.val : Nat) : Int) := by decide +kernel
set_option maxRecDepth 100000 in
set_option maxHeartbeats 8000000 in
theorem hsign_c (G : Globs) (hG : G 1 = .iptr (KS.map pw) 0) (seed : List UInt8) (n i : Int) (msg : List UInt8) (hs : seed.length ≤ 4000) (hi : inR i) (hm : msg.length ≤ 4000) :
    PCalls Tryd.prog G 14 [pstr seed, pint .i64 n, pint .i64 i, pstr msg] [] (fun res H => res = .tuple [pstr (signF seed n i msg).1, pint .i64 (signF seed n i msg).2] ∧ H = []) := by
  have c0 := valid_c G n
  (refine PCalls_f Tryd.func14 rfl Tryd.ntmps14 Tryd.results14 (by simp) fun fin hfin => ?_; have hnm : True := trivial; simp (maxSteps := 2000000) (disch := omega) only [evb, evd, pbuiltin, constPV, pnck, seqK, blockK, scopeK, pbin, pun, ppick, plen, piaddr, pindex, pfield, pslice, pbound, pconv, pelems, pextract, pmm, PV.mem?, PV.one, PV.cells, pageq, peqs, peq1, pmakes, pstore, pbytes, pmark, pusd, pust, psrc, pkey, pkeys, pnile, pcap, pgrow, List.set, Value.cells, ↓popG_eq, ↓pop.eq_1, ↓List.getElem?_map, ↓List.getElem?_cons_zero, ↓List.getElem?_cons_succ, Value.oneCell', Nat.reduceAdd, Nat.reduceMul, Nat.reduceSub, Nat.reduceLeDiff, Nat.reduceEqDiff, ↓reduceIte, ne_eq, reduceCtorEq, forall_const, exists_and_left, exists_eq_left', eq_self, Nat.reduceLT, Int.reduceLT, Int.reduceLE, Int.reduceToNat, Int.reduceAdd, Int.reduceSub, Int.reduceNeg, hnm, Tryd.tf0, Tryd.tf3, Tryd.tf4, Tryd.tf5, Tryd.tf9, Tryd.teq22, Tryd.tf23, Tryd.teq23, Tryd.tf25, Tryd.teq28, Tryd.tf29, Tryd.tf45, Tryd.tf52, Tryd.tf54, Tryd.tf57, Tryd.teq82, Tryd.teq83, Tryd.teq89, Tryd.teq103, Tryd.teq106, Tryd.call10, Tryd.call16, Tryd.call21, Tryd.call22, Tryd.call25, Tryd.call26, Tryd.call27, Tryd.call28, Tryd.call29])
  by_cases hf : seed.length = 32 ∧ 0 ≤ n ∧ n ≤ 6
  · have hl := hf.1
    rw [decide_eq_true hf.2] at c0
    obtain ⟨h, rfl⟩ : ∃ h : Nat, n = h := ⟨n.toNat, by omega⟩
    have hh : h ≤ 6 := by omega
    have hsh := shl_op ⟨h, by omega⟩
    simp only at hsh
    obtain ⟨w, hw⟩ : ∃ w, w = 2 ^ h := ⟨_, rfl⟩
    have hw64 := pow_le64 h hh
    rw [← hw] at hsh hw64
    by_cases hb : i < 0 ∨ (w : Int) ≤ i
    · have hp : signF seed h i msg = ([], 23) := by
        rw [signF, if_neg (by simpa using hf), if_pos (by rw [Int.toNat_natCast]; rw [hw] at hb; exact_mod_cast hb)]
      simp only [hp] at hfin
      repeat' (first
    | (with_reducible apply W_seq_k; intro nx hnx)
    | (with_reducible first | apply W_block | apply W_scope)
    | (with_reducible refine W_prune 885451596837406506767 ?_; simp only [prb, Nat.reducePow, Nat.reduceDiv, Nat.reduceMod, Nat.reduceBEq]; with_reducible apply W_region_l)
    | ((first | (with_reducible apply WL_op; intro nx hnx) | with_reducible refine Ev_out ?_ | (with_reducible refine pfresh_k hnm fun nm hnm => ?_; (try simp only [fmb] at hnm)) | (with_reducible refine pborn_mu hnm fun nm hnm => ?_; (try simp only [fmb] at hnm))); try (simp (maxSteps := 2000000) (disch := omega) only [evb, evd, pbuiltin, constPV, pnck, seqK, blockK, scopeK, pbin, pun, ppick, plen, piaddr, pindex, pfield, pslice, pbound, pconv, pelems, pextract, pmm, PV.mem?, PV.one, PV.cells, pageq, peqs, peq1, pmakes, pstore, pbytes, pmark, pusd, pust, psrc, pkey, pkeys, pnile, pcap, pgrow, List.set, Value.cells, ↓popG_eq, ↓pop.eq_1, ↓List.getElem?_map, ↓List.getElem?_cons_zero, ↓List.getElem?_cons_succ, Value.oneCell', Nat.reduceAdd, Nat.reduceMul, Nat.reduceSub, Nat.reduceLeDiff, Nat.reduceEqDiff, ↓reduceIte, ne_eq, reduceCtorEq, forall_const, exists_and_left, exists_eq_left', eq_self, Nat.reduceLT, Int.reduceLT, Int.reduceLE, Int.reduceToNat, Int.reduceAdd, Int.reduceSub, Int.reduceNeg, hnm, Tryd.tf0, Tryd.tf3, Tryd.tf4, Tryd.tf5, Tryd.tf9, Tryd.teq22, Tryd.tf23, Tryd.teq23, Tryd.tf25, Tryd.teq28, Tryd.tf29, Tryd.tf45, Tryd.tf52, Tryd.tf54, Tryd.tf57, Tryd.teq82, Tryd.teq83, Tryd.teq89, Tryd.teq103, Tryd.teq106, Tryd.call10, Tryd.call16, Tryd.call21, Tryd.call22, Tryd.call25, Tryd.call26, Tryd.call27, Tryd.call28, Tryd.call29, hl, hsh]); repeat (refine And.intro (by omega) ?_))
    | ((with_reducible first | apply WL_nil | apply W_label | apply W_skip | apply W_exit | apply W_ret); try simp only [seqK, blockK, scopeK, ↓reduceIte, Nat.reduceEqDiff])
    | (with_reducible apply pguard_intro <;> (intro hc; (try simp only [hcb, reduceCtorEq, forall_const, ne_eq] at hc); first | (exfalso; omega) | (exfalso; exact hc trivial) | refine Ev_in ?_))
    | (with_reducible apply W_cond_k; intro _ _ ea eb; (simp only [condK, cob, opnd, constPV, Nat.reduceEqDiff, Nat.reduceLT, ↓reduceIte, hcb, reduceCtorEq, forall_const, ne_eq]); subst ea eb; first | (refine ⟨fun hc => ?_, fun hc => ?_⟩ <;> first | (exfalso; omega) | (exfalso; exact hc trivial) | skip) | skip)
    | (with_reducible apply hnx; clear hnx nx)
    | (with_reducible refine And.intro (by omega) ?_)
    | (with_reducible refine And.intro ?_ ?_)
    | (with_reducible refine pcall_k (c0) ?_; rintro _ _ ⟨rfl, rfl⟩ -; refine Ev_in ?_)
    | (clear hnx nx; with_reducible apply hnx; clear hnx nx)
    | (clear hnx nx; clear hnx nx; with_reducible apply hnx; clear hnx nx)
    | (clear hnx nx; clear hnx nx; clear hnx nx; with_reducible apply hnx; clear hnx nx))
      all_goals first
        | exact absurd trivial hc
        | exact rfl
        | (exfalso
           omega)
        | (intro hh
           exfalso
           simp at hh
           done)
        | (intro hh
           exfalso
           simp at hh
           omega)
        | (refine hfin _ _ (Fin_ret2 rfl rfl (Sub_nil _) ?_); simp only [List.getD_cons_zero, List.getD_cons_succ, fr_getD_cons, fr_getD_nil, Nat.reduceEqDiff, Nat.reduceLT, ↓reduceIte]; first | trivial | exact ⟨rfl, by trivial⟩ | (simp; done) | (simp; omega))
    · have hp : signF seed h i msg = (sigT seed h i.toNat msg, 0) := by
        rw [signF, if_neg (by simpa using hf), if_neg (by rw [Int.toNat_natCast]; rw [hw] at hb; exact_mod_cast hb), Int.toNat_natCast]
      simp only [hp] at hfin
      clear hp
      obtain ⟨k, rfl⟩ : ∃ k : Nat, i = k := ⟨i.toNat, by omega⟩
      have hkw : k < w := by omega
      simp only [Int.toNat_natCast] at hfin
      have hk0 : (k : Int) < (w : Int) := by omega
      have hk1 : ¬ (k : Int) < 0 := by omega
      have hk2 : ¬ (w : Int) ≤ (k : Int) := by omega
      have h9 := intB_len9 hi
      have hm2 : ¬ 1048576 < (msg.length : Int) := by omega
      have hca : callable Tryd.prog 44 = true := by kernel_rfl
      repeat' (first
    | (with_reducible apply W_seq_k; intro nx hnx)
    | (with_reducible first | apply W_block | apply W_scope)
    | (with_reducible refine W_prune 885451596837406506767 ?_; simp only [prb, Nat.reducePow, Nat.reduceDiv, Nat.reduceMod, Nat.reduceBEq]; with_reducible apply W_region_l)
    | ((first | (with_reducible apply WL_op; intro nx hnx) | with_reducible refine Ev_out ?_ | (with_reducible refine pfresh_k hnm fun nm hnm => ?_; (try simp only [fmb] at hnm)) | (with_reducible refine pborn_mu hnm fun nm hnm => ?_; (try simp only [fmb] at hnm))); try (simp (maxSteps := 2000000) (disch := omega) only [evb, evd, pbuiltin, constPV, pnck, seqK, blockK, scopeK, pbin, pun, ppick, plen, piaddr, pindex, pfield, pslice, pbound, pconv, pelems, pextract, pmm, PV.mem?, PV.one, PV.cells, pageq, peqs, peq1, pmakes, pstore, pbytes, pmark, pusd, pust, psrc, pkey, pkeys, pnile, pcap, pgrow, List.set, Value.cells, ↓popG_eq, ↓pop.eq_1, ↓List.getElem?_map, ↓List.getElem?_cons_zero, ↓List.getElem?_cons_succ, Value.oneCell', Nat.reduceAdd, Nat.reduceMul, Nat.reduceSub, Nat.reduceLeDiff, Nat.reduceEqDiff, ↓reduceIte, ne_eq, reduceCtorEq, forall_const, exists_and_left, exists_eq_left', eq_self, Nat.reduceLT, Int.reduceLT, Int.reduceLE, Int.reduceToNat, Int.reduceAdd, Int.reduceSub, Int.reduceNeg, hnm, Tryd.tf0, Tryd.tf3, Tryd.tf4, Tryd.tf5, Tryd.tf9, Tryd.teq22, Tryd.tf23, Tryd.teq23, Tryd.tf25, Tryd.teq28, Tryd.tf29, Tryd.tf45, Tryd.tf52, Tryd.tf54, Tryd.tf57, Tryd.teq82, Tryd.teq83, Tryd.teq89, Tryd.teq103, Tryd.teq106, Tryd.call10, Tryd.call16, Tryd.call21, Tryd.call22, Tryd.call25, Tryd.call26, Tryd.call27, Tryd.call28, Tryd.call29, hl, hk0, hk1, hk2, hsh, hm2]); repeat (refine And.intro (by omega) ?_))
    | ((with_reducible first | apply WL_nil | apply W_label | apply W_skip | apply W_exit | apply W_ret); try simp only [seqK, blockK, scopeK, ↓reduceIte, Nat.reduceEqDiff])
    | (with_reducible apply pguard_intro <;> (intro hc; (try simp only [hcb, reduceCtorEq, forall_const, ne_eq] at hc); first | (exfalso; omega) | (exfalso; exact hc trivial) | refine Ev_in ?_))
    | (with_reducible apply W_cond_k; intro _ _ ea eb; (simp only [condK, cob, opnd, constPV, Nat.reduceEqDiff, Nat.reduceLT, ↓reduceIte, hcb, reduceCtorEq, forall_const, ne_eq]); subst ea eb; first | (refine ⟨fun hc => ?_, fun hc => ?_⟩ <;> first | (exfalso; omega) | (exfalso; exact hc trivial) | skip) | skip)
    | (with_reducible apply hnx; clear hnx nx)
    | (with_reducible refine And.intro (by omega) ?_)
    | (with_reducible refine And.intro ?_ ?_)
    | (with_reducible refine pcall_k (c0) ?_; rintro _ _ ⟨rfl, rfl⟩ -; refine Ev_in ?_)
    | (clear hnx nx; with_reducible apply hnx; clear hnx nx)
    | (clear hnx nx; clear hnx nx; with_reducible apply hnx; clear hnx nx)
    | (clear hnx nx; clear hnx nx; clear hnx nx; with_reducible apply hnx; clear hnx nx))
      all_goals first
        | exact absurd trivial hc
        | exact rfl
        | (exfalso
           omega)
        | (intro hh
           exfalso
           simp at hh
           done)
        | (intro hh
           exfalso
           simp at hh
           omega)
        | skip
      refine pcall_k (nodes_c G seed) ?_
      rintro _ _ ⟨a, m, M, s, rfl, rfl⟩ hd
      have c4 := wint_c G k hi.1 hi.2
      have b1 := isByte_pb (intB k)
      have b2 := unb_pb (intB k)
      refine Ev_in ?_
      obtain ⟨e, he⟩ : ∃ e, e = intB (k : Int) := ⟨_, rfl⟩
      rw [← he] at c4 b1 b2 h9
      have hen : e ≠ [] := by
        rintro rfl
        simp at h9
      repeat' (first
    | (with_reducible apply W_seq_k; intro nx hnx)
    | (with_reducible first | apply W_block | apply W_scope)
    | (with_reducible refine W_prune 885451596837406506767 ?_; simp only [prb, Nat.reducePow, Nat.reduceDiv, Nat.reduceMod, Nat.reduceBEq]; with_reducible apply W_region_l)
    | ((first | (with_reducible apply WL_op; intro nx hnx) | with_reducible refine Ev_out ?_ | (with_reducible refine pfresh_k hnm fun nm hnm => ?_; (try simp only [fmb] at hnm)) | (with_reducible refine pborn_mu hnm fun nm hnm => ?_; (try simp only [fmb] at hnm))); try (simp (maxSteps := 2000000) (disch := omega) only [evb, evd, pbuiltin, constPV, pnck, seqK, blockK, scopeK, pbin, pun, ppick, plen, piaddr, pindex, pfield, pslice, pbound, pconv, pelems, pextract, pmm, PV.mem?, PV.one, PV.cells, pageq, peqs, peq1, pmakes, pstore, pbytes, pmark, pusd, pust, psrc, pkey, pkeys, pnile, pcap, pgrow, List.set, Value.cells, ↓popG_eq, ↓pop.eq_1, ↓List.getElem?_map, ↓List.getElem?_cons_zero, ↓List.getElem?_cons_succ, Value.oneCell', Nat.reduceAdd, Nat.reduceMul, Nat.reduceSub, Nat.reduceLeDiff, Nat.reduceEqDiff, ↓reduceIte, ne_eq, reduceCtorEq, forall_const, exists_and_left, exists_eq_left', eq_self, Nat.reduceLT, Int.reduceLT, Int.reduceLE, Int.reduceToNat, Int.reduceAdd, Int.reduceSub, Int.reduceNeg, hnm, Tryd.tf0, Tryd.tf3, Tryd.tf4, Tryd.tf5, Tryd.tf9, Tryd.teq22, Tryd.tf23, Tryd.teq23, Tryd.tf25, Tryd.teq28, Tryd.tf29, Tryd.tf45, Tryd.tf52, Tryd.tf54, Tryd.tf57, Tryd.teq82, Tryd.teq83, Tryd.teq89, Tryd.teq103, Tryd.teq106, Tryd.call10, Tryd.call16, Tryd.call21, Tryd.call22, Tryd.call25, Tryd.call26, Tryd.call27, Tryd.call28, Tryd.call29, hca]); repeat (refine And.intro (by omega) ?_))
    | ((with_reducible first | apply WL_nil | apply W_label | apply W_skip | apply W_exit | apply W_ret); try simp only [seqK, blockK, scopeK, ↓reduceIte, Nat.reduceEqDiff])
    | (with_reducible apply pguard_intro <;> (intro hc; (try simp only [hcb, reduceCtorEq, forall_const, ne_eq] at hc); first | (exfalso; omega) | (exfalso; exact hc trivial) | refine Ev_in ?_))
    | (with_reducible apply W_cond_k; intro _ _ ea eb; (simp only [condK, cob, opnd, constPV, Nat.reduceEqDiff, Nat.reduceLT, ↓reduceIte, hcb, reduceCtorEq, forall_const, ne_eq]); subst ea eb; first | (refine ⟨fun hc => ?_, fun hc => ?_⟩ <;> first | (exfalso; omega) | (exfalso; exact hc trivial) | skip) | skip)
    | (with_reducible apply hnx; clear hnx nx)
    | (with_reducible refine And.intro (by omega) ?_)
    | (with_reducible refine And.intro ?_ ?_)
    | (with_reducible refine pcall_k (c4) ?_; rintro _ _ ⟨rfl, rfl⟩ -; refine Ev_in ?_)
    | (clear hnx nx; with_reducible apply hnx; clear hnx nx)
    | (clear hnx nx; clear hnx nx; with_reducible apply hnx; clear hnx nx)
    | (clear hnx nx; clear hnx nx; clear hnx nx; with_reducible apply hnx; clear hnx nx))
      obtain ⟨NB, hNB⟩ : ∃ N, N = nm := ⟨_, rfl⟩
      subst hNB
      refine pcall_midn [] [(NB, ⟨54, false, 0, [.val (.pointer none), pnil]⟩)] (HM a m M s seed []) rfl (writeL_c G NB [] e hen (by omega) (by simp) _ (.inl ⟨rfl, rfl⟩)) ?_
      rintro _ HB ⟨rfl, hB⟩ nd
      rw [List.nil_append] at hB nd
      have cn := node_at G hG seed hs a m M s h 0 [] (by omega) (by rw [← hw]; omega)
      have cn : PCalls Tryd.prog G 44 [pint .i64 h, .val (.int .i64 0), .ptr m 0, .ptr s 0, .ptr a 0] (HM a m M s seed []) (NRes a m M s seed h 0) := cn
      have hRf : ∀ res H, NRes a m M s seed h 0 res H → res = .agg ((nodeV seed h 0).map pbyte) ∧ ∃ T', H = HM a m M s seed T' := fun _ _ h => h
      generalize NRes a m M s seed h 0 = R at *
      have hvl := nodeV_len seed h 0
      have c2 := hdig_c G hG (nodeV seed h 0) k msg hvl hi hm
      have hdl := digestF_len (nodeV seed h 0) k msg
      have c3 := dig_c G (digestF (nodeV seed h 0) k msg) hdl
      have hqg := digF_get (digestF (nodeV seed h 0) k msg)
      have hql := digF_lt (digestF (nodeV seed h 0) k msg)
      have hqn := digF_len (digestF (nodeV seed h 0) k msg)
      have hsig : sigT seed h k msg = intB k ++ catF (sigV seed k (digF (digestF (nodeV seed h 0) k msg))) 68 ++ catF (patV seed k) h := rfl
      rw [← he] at hsig
      generalize sigT seed h k msg = S at *
      generalize digF (digestF (nodeV seed h 0) k msg) = q at *
      generalize digestF (nodeV seed h 0) k msg = d at *
      generalize nodeV seed h 0 = v at *
      have ho := all_one_byte v
      have hl2 : (v.map pbyte).length = 16 := by rw [List.length_map, hvl]
      have tv : List.take 16 (v.map pbyte) = v.map pbyte := List.take_of_length_le (by omega)
      have hlenS := catF_len (sigV_len seed k q)
      have hq2 : (q.map pn').length = 68 := by rw [List.length_map, hqn]
      refine Ev_in ?_
      repeat' (first
    | (with_reducible apply W_seq_k; intro nx hnx)
    | (with_reducible first | apply W_block | apply W_scope)
    | (with_reducible refine W_prune 885451596837406506767 ?_; simp only [prb, Nat.reducePow, Nat.reduceDiv, Nat.reduceMod, Nat.reduceBEq]; with_reducible apply W_region_l)
    | ((first | (with_reducible apply WL_op; intro nx hnx) | with_reducible refine Ev_out ?_ | (with_reducible refine pfresh_k hnm fun nm hnm => ?_; (try simp only [fmb] at hnm)) | (with_reducible refine pborn_mu hnm fun nm hnm => ?_; (try simp only [fmb] at hnm))); try (simp (maxSteps := 2000000) (disch := omega) only [evb, evd, pbuiltin, constPV, pnck, seqK, blockK, scopeK, pbin, pun, ppick, plen, piaddr, pindex, pfield, pslice, pbound, pconv, pelems, pextract, pmm, PV.mem?, PV.one, PV.cells, pageq, peqs, peq1, pmakes, pstore, pbytes, pmark, pusd, pust, psrc, pkey, pkeys, pnile, pcap, pgrow, List.set, Value.cells, ↓popG_eq, ↓pop.eq_1, ↓List.getElem?_map, ↓List.getElem?_cons_zero, ↓List.getElem?_cons_succ, Value.oneCell', Nat.reduceAdd, Nat.reduceMul, Nat.reduceSub, Nat.reduceLeDiff, Nat.reduceEqDiff, ↓reduceIte, ne_eq, reduceCtorEq, forall_const, exists_and_left, exists_eq_left', eq_self, Nat.reduceLT, Int.reduceLT, Int.reduceLE, Int.reduceToNat, Int.reduceAdd, Int.reduceSub, Int.reduceNeg, hnm, Tryd.tf0, Tryd.tf3, Tryd.tf4, Tryd.tf5, Tryd.tf9, Tryd.teq22, Tryd.tf23, Tryd.teq23, Tryd.tf25, Tryd.teq28, Tryd.tf29, Tryd.tf45, Tryd.tf52, Tryd.tf54, Tryd.tf57, Tryd.teq82, Tryd.teq83, Tryd.teq89, Tryd.teq103, Tryd.teq106, Tryd.call10, Tryd.call16, Tryd.call21, Tryd.call22, Tryd.call25, Tryd.call26, Tryd.call27, Tryd.call28, Tryd.call29, hca, hq2]); repeat (refine And.intro (by omega) ?_))
    | ((with_reducible first | apply WL_nil | apply W_label | apply W_skip | apply W_exit | apply W_ret); try simp only [seqK, blockK, scopeK, ↓reduceIte, Nat.reduceEqDiff])
    | (with_reducible apply pguard_intro <;> (intro hc; (try simp only [hcb, reduceCtorEq, forall_const, ne_eq] at hc); first | (exfalso; omega) | (exfalso; exact hc trivial) | refine Ev_in ?_))
    | (with_reducible apply W_cond_k; intro _ _ ea eb; (simp only [condK, cob, opnd, constPV, Nat.reduceEqDiff, Nat.reduceLT, ↓reduceIte, hcb, reduceCtorEq, forall_const, ne_eq]); subst ea eb; first | (refine ⟨fun hc => ?_, fun hc => ?_⟩ <;> first | (exfalso; omega) | (exfalso; exact hc trivial) | skip) | skip)
    | (with_reducible apply hnx; clear hnx nx)
    | (with_reducible refine And.intro (by omega) ?_)
    | (with_reducible refine And.intro ?_ ?_)
    | (with_reducible refine pcall_k (c2) ?_; rintro _ _ ⟨rfl, rfl⟩ -; refine Ev_in ?_)
    | (with_reducible refine pcall_k (c3) ?_; rintro _ _ ⟨rfl, rfl⟩ -; refine Ev_in ?_)
    | ((refine pcall_midn HB (HM a m M s seed []) [] (by simp) cn ?_; intro r1 H1 hr1 nd2; obtain ⟨rfl, T1, rfl⟩ := hRf _ _ hr1; refine Ev_in ?_))
    | (clear hnx nx; with_reducible apply hnx; clear hnx nx)
    | (clear hnx nx; clear hnx nx; with_reducible apply hnx; clear hnx nx)
    | (clear hnx nx; clear hnx nx; clear hnx nx; with_reducible apply hnx; clear hnx nx))
      all_goals first
        | exact absurd trivial hc
        | exact rfl
        | (exfalso
           omega)
        | skip
      clear cn hRf hr1 hvl c2 c3 hdl ho hl2 tv c0 c4 hd
      refine W_loop_k (fun z τ => ∃ (c : Nat) (u : List UInt8) (HB : Heap), c ≤ 68 ∧ z = 68 - c ∧ u = e ++ catF (sigV seed k q) c ∧ BS NB u HB ∧ (names (HB ++ HM a m M s seed T1)).Nodup ∧
          τ = ⟨fr 83 [(52, pint .i64 c), (51, pint .i64 68), (50, .list 1 (q.map pn')), (11, .ptr NB 0), (10, .func 44 [.ptr m 0, .ptr s 0, .ptr a 0]), (0, pstr seed), (1, pint .i64 h), (2, pint .i64 k)], HB ++ HM a m M s seed T1⟩) 68
        ⟨fr 83 [(52, pint .i64 (0 : Nat)), (51, pint .i64 68), (50, .list 1 (q.map pn')), (11, .ptr NB 0), (10, .func 44 [.ptr m 0, .ptr s 0, .ptr a 0]), (0, pstr seed), (1, pint .i64 h), (2, pint .i64 k)], HB ++ HM a m M s seed T1⟩ (by
        refine Wk_fr (by simp only [wkb, Nat.reduceEqDiff, Nat.reduceLT, ↓reduceIte]) ?_
        exact Sub_refl (by simpa using nd2)) ⟨0, e, HB, by omega, by omega, by rw [catF_zero, List.append_nil], hB, by simpa using nd2, rfl⟩ ?_
      clear hB nd nd2
      rintro z τ ⟨c, u, HB, hc, rfl, hsc, hB, nd, rfl⟩ lp hlp
      have hsl : u.length ≤ 9 + 16 * c := by rw [hsc, List.length_append, hlenS]; omega
      by_cases hlt : c < 68
      · have hcR : inR (c : Int) := ⟨by omega, by omega⟩
        have hg := hqg c hlt
        have hgl := hql c
        have hg3 : (q.map pn').getD c PV.junk = pint .i64 (q.getD c 0 : Nat) := by rw [List.getD_eq_getElem?_getD, hg]; rfl
        have d1 := start_c G hG seed hs k c hi hcR
        have d2 := adv_c G hG k c 0 (q.getD c 0 : Nat) (startF seed k c) hi hcR (by omega) (by omega) (by omega) (by omega) (startF_len _ _ _)
        rw [show advF k c 0 (((q.getD c 0 : Nat) : Int) - 0).toNat (startF seed k c) = sigV seed k q c from rfl] at d2
        have hsu := catF_succ (sigV seed k q) c
        have htl := sigV_len seed k q c
        obtain ⟨y, hy⟩ : ∃ y, y = u ++ sigV seed k q c := ⟨_, rfl⟩
        have hyl : y = e ++ catF (sigV seed k q) (c + 1) := by rw [hy, hsc, hsu, List.append_assoc]
        generalize sigV seed k q c = x at *
        generalize startF seed k c = v1 at *
        generalize q.getD c 0 = x0 at *
        have cw := fun v => writeA_c G NB v u x htl (by omega) HB hB
        rw [← hy] at cw
        have hxl : (x.map pbyte).length = 16 := by rw [List.length_map, htl]
        have tx : List.take 16 (x.map pbyte) = x.map pbyte := List.take_of_length_le (by omega)
        have hxo := all_one_byte x
        repeat' (first
    | (with_reducible apply W_seq_k; intro nx hnx)
    | (with_reducible first | apply W_block | apply W_scope)
    | (with_reducible refine W_prune 885451596837406506767 ?_; simp only [prb, Nat.reducePow, Nat.reduceDiv, Nat.reduceMod, Nat.reduceBEq]; with_reducible apply W_region_l)
    | ((first | (with_reducible apply WL_op; intro nx hnx) | with_reducible refine Ev_out ?_ | (with_reducible refine pfresh_k hnm fun nm hnm => ?_; (try simp only [fmb] at hnm)) | (with_reducible refine pborn_mu hnm fun nm hnm => ?_; (try simp only [fmb] at hnm))); try (simp (maxSteps := 2000000) (disch := omega) only [evb, evd, pbuiltin, constPV, pnck, seqK, blockK, scopeK, pbin, pun, ppick, plen, piaddr, pindex, pfield, pslice, pbound, pconv, pelems, pextract, pmm, PV.mem?, PV.one, PV.cells, pageq, peqs, peq1, pmakes, pstore, pbytes, pmark, pusd, pust, psrc, pkey, pkeys, pnile, pcap, pgrow, List.set, Value.cells, ↓popG_eq, ↓pop.eq_1, ↓List.getElem?_map, ↓List.getElem?_cons_zero, ↓List.getElem?_cons_succ, Value.oneCell', Nat.reduceAdd, Nat.reduceMul, Nat.reduceSub, Nat.reduceLeDiff, Nat.reduceEqDiff, ↓reduceIte, ne_eq, reduceCtorEq, forall_const, exists_and_left, exists_eq_left', eq_self, Nat.reduceLT, Int.reduceLT, Int.reduceLE, Int.reduceToNat, Int.reduceAdd, Int.reduceSub, Int.reduceNeg, hnm, Tryd.tf0, Tryd.tf3, Tryd.tf4, Tryd.tf5, Tryd.tf9, Tryd.teq22, Tryd.tf23, Tryd.teq23, Tryd.tf25, Tryd.teq28, Tryd.tf29, Tryd.tf45, Tryd.tf52, Tryd.tf54, Tryd.tf57, Tryd.teq82, Tryd.teq83, Tryd.teq89, Tryd.teq103, Tryd.teq106, Tryd.call10, Tryd.call16, Tryd.call21, Tryd.call22, Tryd.call25, Tryd.call26, Tryd.call27, Tryd.call28, Tryd.call29, htl, hg, hg3, hq2, hxl, tx, hxo]); repeat (refine And.intro (by omega) ?_))
    | ((with_reducible first | apply WL_nil | apply W_label | apply W_skip | apply W_exit | apply W_ret); try simp only [seqK, blockK, scopeK, ↓reduceIte, Nat.reduceEqDiff])
    | (with_reducible apply pguard_intro <;> (intro hc; (try simp only [hcb, reduceCtorEq, forall_const, ne_eq] at hc); first | (exfalso; omega) | (exfalso; exact hc trivial) | refine Ev_in ?_))
    | (with_reducible apply W_cond_k; intro _ _ ea eb; (simp only [condK, cob, opnd, constPV, Nat.reduceEqDiff, Nat.reduceLT, ↓reduceIte, hcb, reduceCtorEq, forall_const, ne_eq]); subst ea eb; first | (refine ⟨fun hc => ?_, fun hc => ?_⟩ <;> first | (exfalso; omega) | (exfalso; exact hc trivial) | skip) | skip)
    | (with_reducible apply hnx; clear hnx nx)
    | (with_reducible refine And.intro (by omega) ?_)
    | (with_reducible refine And.intro ?_ ?_)
    | (with_reducible refine pcall_k (d1) ?_; rintro _ _ ⟨rfl, rfl⟩ -; refine Ev_in ?_)
    | (with_reducible refine pcall_k (d2) ?_; rintro _ _ ⟨rfl, rfl⟩ -; refine Ev_in ?_)
    | ((refine pcall_midn [] (_ :: HB) (HM a m M s seed T1) rfl (cw _) ?_; rintro _ H2 ⟨rfl, hB2⟩ nd2; refine Ev_in ?_))
    | (clear hnx nx; with_reducible apply hnx; clear hnx nx)
    | (clear hnx nx; clear hnx nx; with_reducible apply hnx; clear hnx nx)
    | (clear hnx nx; clear hnx nx; clear hnx nx; with_reducible apply hnx; clear hnx nx))
        all_goals first
          | exact rfl
          | (exfalso
             omega)
          | (refine hlp _ (68 - (c + 1)) _ (by omega) ?_ ⟨c + 1, y, H2, by omega, rfl, hyl, hB2, nd2, rfl⟩
             refine Wk_fr (by simp only [wkb, Nat.reduceEqDiff, Nat.reduceLT, ↓reduceIte]) ?_
             exact Sub_refl nd2)
      · obtain rfl : c = 68 := by omega
        have hlenP := catF_len (patV_len seed k)
        clear hqg hql
        repeat' (first
    | (with_reducible apply W_seq_k; intro nx hnx)
    | (with_reducible first | apply W_block | apply W_scope)
    | (with_reducible refine W_prune 885451596837406506767 ?_; simp only [prb, Nat.reducePow, Nat.reduceDiv, Nat.reduceMod, Nat.reduceBEq]; with_reducible apply W_region_l)
    | ((first | (with_reducible apply WL_op; intro nx hnx) | with_reducible refine Ev_out ?_ | (with_reducible refine pfresh_k hnm fun nm hnm => ?_; (try simp only [fmb] at hnm)) | (with_reducible refine pborn_mu hnm fun nm hnm => ?_; (try simp only [fmb] at hnm))); try (simp (maxSteps := 2000000) (disch := omega) only [evb, evd, pbuiltin, constPV, pnck, seqK, blockK, scopeK, pbin, pun, ppick, plen, piaddr, pindex, pfield, pslice, pbound, pconv, pelems, pextract, pmm, PV.mem?, PV.one, PV.cells, pageq, peqs, peq1, pmakes, pstore, pbytes, pmark, pusd, pust, psrc, pkey, pkeys, pnile, pcap, pgrow, List.set, Value.cells, ↓popG_eq, ↓pop.eq_1, ↓List.getElem?_map, ↓List.getElem?_cons_zero, ↓List.getElem?_cons_succ, Value.oneCell', Nat.reduceAdd, Nat.reduceMul, Nat.reduceSub, Nat.reduceLeDiff, Nat.reduceEqDiff, ↓reduceIte, ne_eq, reduceCtorEq, forall_const, exists_and_left, exists_eq_left', eq_self, Nat.reduceLT, Int.reduceLT, Int.reduceLE, Int.reduceToNat, Int.reduceAdd, Int.reduceSub, Int.reduceNeg, hnm, Tryd.tf0, Tryd.tf3, Tryd.tf4, Tryd.tf5, Tryd.tf9, Tryd.teq22, Tryd.tf23, Tryd.teq23, Tryd.tf25, Tryd.teq28, Tryd.tf29, Tryd.tf45, Tryd.tf52, Tryd.tf54, Tryd.tf57, Tryd.teq82, Tryd.teq83, Tryd.teq89, Tryd.teq103, Tryd.teq106, Tryd.call10, Tryd.call16, Tryd.call21, Tryd.call22, Tryd.call25, Tryd.call26, Tryd.call27, Tryd.call28, Tryd.call29]); repeat (refine And.intro (by omega) ?_))
    | ((with_reducible first | apply WL_nil | apply W_label | apply W_skip | apply W_exit | apply W_ret); try simp only [seqK, blockK, scopeK, ↓reduceIte, Nat.reduceEqDiff])
    | (with_reducible apply pguard_intro <;> (intro hc; (try simp only [hcb, reduceCtorEq, forall_const, ne_eq] at hc); first | (exfalso; omega) | (exfalso; exact hc trivial) | refine Ev_in ?_))
    | (with_reducible apply W_cond_k; intro _ _ ea eb; (simp only [condK, cob, opnd, constPV, Nat.reduceEqDiff, Nat.reduceLT, ↓reduceIte, hcb, reduceCtorEq, forall_const, ne_eq]); subst ea eb; first | (refine ⟨fun hc => ?_, fun hc => ?_⟩ <;> first | (exfalso; omega) | (exfalso; exact hc trivial) | skip) | skip)
    | (with_reducible apply hnx; clear hnx nx)
    | (with_reducible refine And.intro (by omega) ?_)
    | (with_reducible refine And.intro ?_ ?_)
    | (clear hnx nx; with_reducible apply hnx; clear hnx nx)
    | (clear hnx nx; clear hnx nx; with_reducible apply hnx; clear hnx nx)
    | (clear hnx nx; clear hnx nx; clear hnx nx; with_reducible apply hnx; clear hnx nx))
        refine W_loop_k (fun z τ => ∃ (l : Nat) (y : List UInt8) (HB : Heap) (T : List (Nat × Nat)), l ≤ h ∧ z = h - l ∧ y = u ++ catF (patV seed k) l ∧ BS NB y HB ∧ (names (HB ++ HM a m M s seed T)).Nodup ∧
            τ = ⟨fr 83 [(69, pint .i64 l), (68, pint .i64 h), (11, .ptr NB 0), (10, .func 44 [.ptr m 0, .ptr s 0, .ptr a 0]), (2, pint .i64 k)], HB ++ HM a m M s seed T⟩) h
          ⟨fr 83 [(69, pint .i64 (0 : Nat)), (68, pint .i64 h), (11, .ptr NB 0), (10, .func 44 [.ptr m 0, .ptr s 0, .ptr a 0]), (2, pint .i64 k)], HB ++ HM a m M s seed T1⟩ (by
          refine Wk_fr (by simp only [wkb, Nat.reduceEqDiff, Nat.reduceLT, ↓reduceIte]) ?_
          exact Sub_refl nd) ⟨0, u, HB, T1, by omega, by omega, by rw [catF_zero, List.append_nil], hB, nd, rfl⟩ ?_
        clear hB nd
        rintro z τ ⟨l, y, HB, T, hl6, rfl, hy, hB, nd, rfl⟩ lp2 hlp2
        have hyl : y.length ≤ 9 + 16 * 68 + 16 * l := by rw [hy, List.length_append, hlenP]; omega
        by_cases hlh : l < h
        · have g1 := shr_op k l (by omega)
          have hj64 : k / 2 ^ l ≤ 64 := Nat.le_trans (Nat.div_le_self _ _) (by omega)
          have g2 := xor_sib ⟨k / 2 ^ l, by omega⟩
          simp only at g2
          have hpv : patV seed k l = nodeV seed l (sib (k / 2 ^ l)) := rfl
          have hsu := catF_succ (patV seed k) l
          rw [hpv] at hsu
          generalize k / 2 ^ l = j at *
          have hsb : sib j ≤ 65 := by unfold sib; split <;> omega
          have hp6 : 2 ^ l ≤ 64 := pow_le64 l (by omega)
          have cn := node_at G hG seed hs a m M s l (sib j) T (by omega) (Nat.le_trans (Nat.mul_le_mul (show sib j + 1 ≤ 66 by omega) hp6) (by omega))
          have hRf : ∀ res H, NRes a m M s seed l (sib j) res H → res = .agg ((nodeV seed l (sib j)).map pbyte) ∧ ∃ T', H = HM a m M s seed T' := fun _ _ h => h
          generalize NRes a m M s seed l (sib j) = R at *
          have htl := nodeV_len seed l (sib j)
          obtain ⟨y2, hy2⟩ : ∃ y2, y2 = y ++ nodeV seed l (sib j) := ⟨_, rfl⟩
          have hyu : y2 = u ++ catF (patV seed k) (l + 1) := by rw [hy2, hy, hsu, List.append_assoc]
          generalize nodeV seed l (sib j) = x at *
          generalize sib j = j2 at *
          have cw := fun v => writeA_c G NB v y x htl (by omega) HB hB
          rw [← hy2] at cw
          have hxl : (x.map pbyte).length = 16 := by rw [List.length_map, htl]
          have tx : List.take 16 (x.map pbyte) = x.map pbyte := List.take_of_length_le (by omega)
          have hxo := all_one_byte x
          repeat' (first
    | (with_reducible apply W_seq_k; intro nx hnx)
    | (with_reducible first | apply W_block | apply W_scope)
    | (with_reducible refine W_prune 885451596837406506767 ?_; simp only [prb, Nat.reducePow, Nat.reduceDiv, Nat.reduceMod, Nat.reduceBEq]; with_reducible apply W_region_l)
    | ((first | (with_reducible apply WL_op; intro nx hnx) | with_reducible refine Ev_out ?_ | (with_reducible refine pfresh_k hnm fun nm hnm => ?_; (try simp only [fmb] at hnm)) | (with_reducible refine pborn_mu hnm fun nm hnm => ?_; (try simp only [fmb] at hnm))); try (simp (maxSteps := 2000000) (disch := omega) only [evb, evd, pbuiltin, constPV, pnck, seqK, blockK, scopeK, pbin, pun, ppick, plen, piaddr, pindex, pfield, pslice, pbound, pconv, pelems, pextract, pmm, PV.mem?, PV.one, PV.cells, pageq, peqs, peq1, pmakes, pstore, pbytes, pmark, pusd, pust, psrc, pkey, pkeys, pnile, pcap, pgrow, List.set, Value.cells, ↓popG_eq, ↓pop.eq_1, ↓List.getElem?_map, ↓List.getElem?_cons_zero, ↓List.getElem?_cons_succ, Value.oneCell', Nat.reduceAdd, Nat.reduceMul, Nat.reduceSub, Nat.reduceLeDiff, Nat.reduceEqDiff, ↓reduceIte, ne_eq, reduceCtorEq, forall_const, exists_and_left, exists_eq_left', eq_self, Nat.reduceLT, Int.reduceLT, Int.reduceLE, Int.reduceToNat, Int.reduceAdd, Int.reduceSub, Int.reduceNeg, hnm, Tryd.tf0, Tryd.tf3, Tryd.tf4, Tryd.tf5, Tryd.tf9, Tryd.teq22, Tryd.tf23, Tryd.teq23, Tryd.tf25, Tryd.teq28, Tryd.tf29, Tryd.tf45, Tryd.tf52, Tryd.tf54, Tryd.tf57, Tryd.teq82, Tryd.teq83, Tryd.teq89, Tryd.teq103, Tryd.teq106, Tryd.call10, Tryd.call16, Tryd.call21, Tryd.call22, Tryd.call25, Tryd.call26, Tryd.call27, Tryd.call28, Tryd.call29, hca, g1, g2, htl, hxl, tx, hxo]); repeat (refine And.intro (by omega) ?_))
    | ((with_reducible first | apply WL_nil | apply W_label | apply W_skip | apply W_exit | apply W_ret); try simp only [seqK, blockK, scopeK, ↓reduceIte, Nat.reduceEqDiff])
    | (with_reducible apply pguard_intro <;> (intro hc; (try simp only [hcb, reduceCtorEq, forall_const, ne_eq] at hc); first | (exfalso; omega) | (exfalso; exact hc trivial) | refine Ev_in ?_))
    | (with_reducible apply W_cond_k; intro _ _ ea eb; (simp only [condK, cob, opnd, constPV, Nat.reduceEqDiff, Nat.reduceLT, ↓reduceIte, hcb, reduceCtorEq, forall_const, ne_eq]); subst ea eb; first | (refine ⟨fun hc => ?_, fun hc => ?_⟩ <;> first | (exfalso; omega) | (exfalso; exact hc trivial) | skip) | skip)
    | (with_reducible apply hnx; clear hnx nx)
    | (with_reducible refine And.intro (by omega) ?_)
    | (with_reducible refine And.intro ?_ ?_)
    | ((refine pcall_midn HB (HM a m M s seed T) [] (by simp) cn ?_; intro r1 H1 hr1 nd2; obtain ⟨rfl, T2, rfl⟩ := hRf _ _ hr1; refine Ev_in ?_))
    | ((refine pcall_midn [] (_ :: HB) (HM a m M s seed _) rfl (cw _) ?_; rintro _ H2 ⟨rfl, hB2⟩ nd3; refine Ev_in ?_))
    | (clear hnx nx; with_reducible apply hnx; clear hnx nx)
    | (clear hnx nx; clear hnx nx; with_reducible apply hnx; clear hnx nx)
    | (clear hnx nx; clear hnx nx; clear hnx nx; with_reducible apply hnx; clear hnx nx))
          all_goals first
            | exact rfl
            | (exfalso
               omega)
            | (refine hlp2 _ (h - (l + 1)) _ (by omega) ?_ ⟨l + 1, y2, H2, T2, by omega, rfl, hyu, hB2, nd3, rfl⟩
               refine Wk_fr (by simp only [wkb, Nat.reduceEqDiff, Nat.reduceLT, ↓reduceIte]) ?_
               exact Sub_refl nd3)
        · obtain rfl : l = h := by omega
          have hS : y = S := by rw [hy, hsc, hsig]
          have k0 := string_c G NB y (by omega) HB hB
          rw [hS] at k0
          repeat' (first
    | (with_reducible apply W_seq_k; intro nx hnx)
    | (with_reducible first | apply W_block | apply W_scope)
    | (with_reducible refine W_prune 885451596837406506767 ?_; simp only [prb, Nat.reducePow, Nat.reduceDiv, Nat.reduceMod, Nat.reduceBEq]; with_reducible apply W_region_l)
    | ((first | (with_reducible apply WL_op; intro nx hnx) | with_reducible refine Ev_out ?_ | (with_reducible refine pfresh_k hnm fun nm hnm => ?_; (try simp only [fmb] at hnm)) | (with_reducible refine pborn_mu hnm fun nm hnm => ?_; (try simp only [fmb] at hnm))); try (simp (maxSteps := 2000000) (disch := omega) only [evb, evd, pbuiltin, constPV, pnck, seqK, blockK, scopeK, pbin, pun, ppick, plen, piaddr, pindex, pfield, pslice, pbound, pconv, pelems, pextract, pmm, PV.mem?, PV.one, PV.cells, pageq, peqs, peq1, pmakes, pstore, pbytes, pmark, pusd, pust, psrc, pkey, pkeys, pnile, pcap, pgrow, List.set, Value.cells, ↓popG_eq, ↓pop.eq_1, ↓List.getElem?_map, ↓List.getElem?_cons_zero, ↓List.getElem?_cons_succ, Value.oneCell', Nat.reduceAdd, Nat.reduceMul, Nat.reduceSub, Nat.reduceLeDiff, Nat.reduceEqDiff, ↓reduceIte, ne_eq, reduceCtorEq, forall_const, exists_and_left, exists_eq_left', eq_self, Nat.reduceLT, Int.reduceLT, Int.reduceLE, Int.reduceToNat, Int.reduceAdd, Int.reduceSub, Int.reduceNeg, hnm, Tryd.tf0, Tryd.tf3, Tryd.tf4, Tryd.tf5, Tryd.tf9, Tryd.teq22, Tryd.tf23, Tryd.teq23, Tryd.tf25, Tryd.teq28, Tryd.tf29, Tryd.tf45, Tryd.tf52, Tryd.tf54, Tryd.tf57, Tryd.teq82, Tryd.teq83, Tryd.teq89, Tryd.teq103, Tryd.teq106, Tryd.call10, Tryd.call16, Tryd.call21, Tryd.call22, Tryd.call25, Tryd.call26, Tryd.call27, Tryd.call28, Tryd.call29]); repeat (refine And.intro (by omega) ?_))
    | ((with_reducible first | apply WL_nil | apply W_label | apply W_skip | apply W_exit | apply W_ret); try simp only [seqK, blockK, scopeK, ↓reduceIte, Nat.reduceEqDiff])
    | (with_reducible apply pguard_intro <;> (intro hc; (try simp only [hcb, reduceCtorEq, forall_const, ne_eq] at hc); first | (exfalso; omega) | (exfalso; exact hc trivial) | refine Ev_in ?_))
    | (with_reducible apply W_cond_k; intro _ _ ea eb; (simp only [condK, cob, opnd, constPV, Nat.reduceEqDiff, Nat.reduceLT, ↓reduceIte, hcb, reduceCtorEq, forall_const, ne_eq]); subst ea eb; first | (refine ⟨fun hc => ?_, fun hc => ?_⟩ <;> first | (exfalso; omega) | (exfalso; exact hc trivial) | skip) | skip)
    | (with_reducible apply hnx; clear hnx nx)
    | (with_reducible refine And.intro (by omega) ?_)
    | (with_reducible refine And.intro ?_ ?_)
    | ((refine pcall_midn [] HB (HM a m M s seed T) rfl k0 ?_; rintro _ _ ⟨rfl, rfl⟩ nd2; refine Ev_in ?_))
    | (clear hnx nx; with_reducible apply hnx; clear hnx nx)
    | (clear hnx nx; clear hnx nx; with_reducible apply hnx; clear hnx nx)
    | (clear hnx nx; clear hnx nx; clear hnx nx; with_reducible apply hnx; clear hnx nx))
          all_goals first
            | exact rfl
            | (exfalso
               omega)
            | (refine hfin _ _ (Fin_ret2 rfl rfl (Sub_nil _) ?_); simp only [List.getD_cons_zero, List.getD_cons_succ, fr_getD_cons, fr_getD_nil, Nat.reduceEqDiff, Nat.reduceLT, ↓reduceIte]; first | trivial | exact ⟨rfl, by trivial⟩ | (simp; done) | (simp; omega))
  · have hp : signF seed n i msg = ([], 1) := by rw [signF, if_pos hf]
    simp only [hp] at hfin
    by_cases hl : seed.length = 32
    · have hv : ¬ (0 ≤ n ∧ n ≤ 6) := fun h => hf ⟨hl, h⟩
      rw [decide_eq_false hv] at c0
      repeat' (first
    | (with_reducible apply W_seq_k; intro nx hnx)
    | (with_reducible first | apply W_block | apply W_scope)
    | (with_reducible refine W_prune 885451596837406506767 ?_; simp only [prb, Nat.reducePow, Nat.reduceDiv, Nat.reduceMod, Nat.reduceBEq]; with_reducible apply W_region_l)
    | ((first | (with_reducible apply WL_op; intro nx hnx) | with_reducible refine Ev_out ?_ | (with_reducible refine pfresh_k hnm fun nm hnm => ?_; (try simp only [fmb] at hnm)) | (with_reducible refine pborn_mu hnm fun nm hnm => ?_; (try simp only [fmb] at hnm))); try (simp (maxSteps := 2000000) (disch := omega) only [evb, evd, pbuiltin, constPV, pnck, seqK, blockK, scopeK, pbin, pun, ppick, plen, piaddr, pindex, pfield, pslice, pbound, pconv, pelems, pextract, pmm, PV.mem?, PV.one, PV.cells, pageq, peqs, peq1, pmakes, pstore, pbytes, pmark, pusd, pust, psrc, pkey, pkeys, pnile, pcap, pgrow, List.set, Value.cells, ↓popG_eq, ↓pop.eq_1, ↓List.getElem?_map, ↓List.getElem?_cons_zero, ↓List.getElem?_cons_succ, Value.oneCell', Nat.reduceAdd, Nat.reduceMul, Nat.reduceSub, Nat.reduceLeDiff, Nat.reduceEqDiff, ↓reduceIte, ne_eq, reduceCtorEq, forall_const, exists_and_left, exists_eq_left', eq_self, Nat.reduceLT, Int.reduceLT, Int.reduceLE, Int.reduceToNat, Int.reduceAdd, Int.reduceSub, Int.reduceNeg, hnm, Tryd.tf0, Tryd.tf3, Tryd.tf4, Tryd.tf5, Tryd.tf9, Tryd.teq22, Tryd.tf23, Tryd.teq23, Tryd.tf25, Tryd.teq28, Tryd.tf29, Tryd.tf45, Tryd.tf52, Tryd.tf54, Tryd.tf57, Tryd.teq82, Tryd.teq83, Tryd.teq89, Tryd.teq103, Tryd.teq106, Tryd.call10, Tryd.call16, Tryd.call21, Tryd.call22, Tryd.call25, Tryd.call26, Tryd.call27, Tryd.call28, Tryd.call29, hl]); repeat (refine And.intro (by omega) ?_))
    | ((with_reducible first | apply WL_nil | apply W_label | apply W_skip | apply W_exit | apply W_ret); try simp only [seqK, blockK, scopeK, ↓reduceIte, Nat.reduceEqDiff])
    | (with_reducible apply pguard_intro <;> (intro hc; (try simp only [hcb, reduceCtorEq, forall_const, ne_eq] at hc); first | (exfalso; omega) | (exfalso; exact hc trivial) | refine Ev_in ?_))
    | (with_reducible apply W_cond_k; intro _ _ ea eb; (simp only [condK, cob, opnd, constPV, Nat.reduceEqDiff, Nat.reduceLT, ↓reduceIte, hcb, reduceCtorEq, forall_const, ne_eq]); subst ea eb; first | (refine ⟨fun hc => ?_, fun hc => ?_⟩ <;> first | (exfalso; omega) | (exfalso; exact hc trivial) | skip) | skip)
    | (with_reducible apply hnx; clear hnx nx)
    | (with_reducible refine And.intro (by omega) ?_)
    | (with_reducible refine And.intro ?_ ?_)
    | (with_reducible refine pcall_k (c0) ?_; rintro _ _ ⟨rfl, rfl⟩ -; refine Ev_in ?_)
    | (clear hnx nx; with_reducible apply hnx; clear hnx nx)
    | (clear hnx nx; clear hnx nx; with_reducible apply hnx; clear hnx nx)
    | (clear hnx nx; clear hnx nx; clear hnx nx; with_reducible apply hnx; clear hnx nx))
      all_goals first
        | exact absurd trivial hc
        | exact rfl
        | (exfalso
           omega)
        | (intro hh
           exfalso
           simp at hh
           done)
        | (refine hfin _ _ (Fin_ret2 rfl rfl (Sub_nil _) ?_); simp only [List.getD_cons_zero, List.getD_cons_succ, fr_getD_cons, fr_getD_nil, Nat.reduceEqDiff, Nat.reduceLT, ↓reduceIte]; first | trivial | exact ⟨rfl, by trivial⟩ | (simp; done) | (simp; omega))
    · have hl' : ¬ (seed.length : Int) = 32 := by omega
      repeat' (first
    | (with_reducible apply W_seq_k; intro nx hnx)
    | (with_reducible first | apply W_block | apply W_scope)
    | (with_reducible refine W_prune 885451596837406506767 ?_; simp only [prb, Nat.reducePow, Nat.reduceDiv, Nat.reduceMod, Nat.reduceBEq]; with_reducible apply W_region_l)
    | ((first | (with_reducible apply WL_op; intro nx hnx) | with_reducible refine Ev_out ?_ | (with_reducible refine pfresh_k hnm fun nm hnm => ?_; (try simp only [fmb] at hnm)) | (with_reducible refine pborn_mu hnm fun nm hnm => ?_; (try simp only [fmb] at hnm))); try (simp (maxSteps := 2000000) (disch := omega) only [evb, evd, pbuiltin, constPV, pnck, seqK, blockK, scopeK, pbin, pun, ppick, plen, piaddr, pindex, pfield, pslice, pbound, pconv, pelems, pextract, pmm, PV.mem?, PV.one, PV.cells, pageq, peqs, peq1, pmakes, pstore, pbytes, pmark, pusd, pust, psrc, pkey, pkeys, pnile, pcap, pgrow, List.set, Value.cells, ↓popG_eq, ↓pop.eq_1, ↓List.getElem?_map, ↓List.getElem?_cons_zero, ↓List.getElem?_cons_succ, Value.oneCell', Nat.reduceAdd, Nat.reduceMul, Nat.reduceSub, Nat.reduceLeDiff, Nat.reduceEqDiff, ↓reduceIte, ne_eq, reduceCtorEq, forall_const, exists_and_left, exists_eq_left', eq_self, Nat.reduceLT, Int.reduceLT, Int.reduceLE, Int.reduceToNat, Int.reduceAdd, Int.reduceSub, Int.reduceNeg, hnm, Tryd.tf0, Tryd.tf3, Tryd.tf4, Tryd.tf5, Tryd.tf9, Tryd.teq22, Tryd.tf23, Tryd.teq23, Tryd.tf25, Tryd.teq28, Tryd.tf29, Tryd.tf45, Tryd.tf52, Tryd.tf54, Tryd.tf57, Tryd.teq82, Tryd.teq83, Tryd.teq89, Tryd.teq103, Tryd.teq106, Tryd.call10, Tryd.call16, Tryd.call21, Tryd.call22, Tryd.call25, Tryd.call26, Tryd.call27, Tryd.call28, Tryd.call29, hl', hl]); repeat (refine And.intro (by omega) ?_))
    | ((with_reducible first | apply WL_nil | apply W_label | apply W_skip | apply W_exit | apply W_ret); try simp only [seqK, blockK, scopeK, ↓reduceIte, Nat.reduceEqDiff])
    | (with_reducible apply pguard_intro <;> (intro hc; (try simp only [hcb, reduceCtorEq, forall_const, ne_eq] at hc); first | (exfalso; omega) | (exfalso; exact hc trivial) | refine Ev_in ?_))
    | (with_reducible apply W_cond_k; intro _ _ ea eb; (simp only [condK, cob, opnd, constPV, Nat.reduceEqDiff, Nat.reduceLT, ↓reduceIte, hcb, reduceCtorEq, forall_const, ne_eq]); subst ea eb; first | (refine ⟨fun hc => ?_, fun hc => ?_⟩ <;> first | (exfalso; omega) | (exfalso; exact hc trivial) | skip) | skip)
    | (with_reducible apply hnx; clear hnx nx)
    | (with_reducible refine And.intro (by omega) ?_)
    | (with_reducible refine And.intro ?_ ?_)
    | (with_reducible refine pcall_k (c0) ?_; rintro _ _ ⟨rfl, rfl⟩ -; refine Ev_in ?_)
    | (clear hnx nx; with_reducible apply hnx; clear hnx nx)
    | (clear hnx nx; clear hnx nx; with_reducible apply hnx; clear hnx nx)
    | (clear hnx nx; clear hnx nx; clear hnx nx; with_reducible apply hnx; clear hnx nx))
      all_goals first
        | exact absurd trivial hc
        | exact rfl
        | (exfalso
           omega)
        | (intro hh
           exfalso
           simp at hh
           done)
        | (refine hfin _ _ (Fin_ret2 rfl rfl (Sub_nil _) ?_); simp only [List.getD_cons_zero, List.getD_cons_succ, fr_getD_cons, fr_getD_nil, Nat.reduceEqDiff, Nat.reduceLT, ↓reduceIte]; first | trivial | exact ⟨rfl, by trivial⟩ | (simp; done) | (simp; omega))
end Go.PM

namespace Go.PM
open Go.Proofs
attribute [local irreducible] W PCalls pcall pcallI WL
theorem and_one : ∀ j : _root_.Fin 128, bits .and .i64 (j.val : Int) 1 = ((j.val % 2 : Nat) : Int) := by decide +kernel
theorem value_lend {G : Globs} {σ : PState} {q : Bool} {d : Option Tmp} {K : PState → Prop} (N : Int) (r : List UInt8) (n : Nat) (hr : r.length = n * 16) (hn : n ≤ 1000) (x : PV) (k : Nat) (hk : k < n) (hx : x = pint .i64 k)
    (hl : look σ.heap N = some ⟨52, false, 0, [.list 1 (r.map pbyte)]⟩) (h : K (PState.put σ d (.agg ((restV r k).map pbyte)))) : @pcallI q Tryd.prog G σ d 37 [x, .ptr N 0] ⟨K⟩ := by
  subst hx
  refine pcall_lend (R := fun res H => res = .agg ((restV r k).map pbyte) ∧ H = []) N ⟨52, false, 0, [.list 1 (r.map pbyte)]⟩ hl ?_ ?_
  · have e : [pint .i64 (k : Int), PV.ptr N 0].map (frz1 N [.list 1 (r.map pbyte)]) = [pint .i64 k, .iptr [.list 1 (r.map pbyte)] 0] := by simp [frz1]
    rw [e]
    exact value_c G r n hr hn k hk
  · rintro _ _ ⟨rfl, rfl⟩
    refine ⟨rfl, Flat_all fun c hc => ?_, h⟩
    obtain ⟨b, _, rfl⟩ := List.mem_map.1 hc
    exact ⟨_, rfl⟩
theorem frz_pb (n : Int) (cs : List PV) (l : List UInt8) : ∀ u ∈ l.map pbyte, (frz n cs u).one = true := by
  intro u hu
  obtain ⟨b, _, rfl⟩ := List.mem_map.1 hu
  rfl
set_option maxRecDepth 100000 in
set_option maxHeartbeats 8000000 in
theorem hver_c (G : Globs) (hG : G 1 = .iptr (KS.map pw) 0) (p : List UInt8) (n : Int) (m s : List UInt8) (hp : p.length = 16) (hm : m.length ≤ 4000) (hs : s.length ≤ 4000) :
    PCalls Tryd.prog G 18 [.agg (p.map pbyte), pint .i64 n, pstr m, pstr s] [] (fun res H => res = .tuple [pint .i64 (verF p n m s).1, pint .i64 (verF p n m s).2] ∧ H = []) := by
  have hl0 : (p.map pbyte).length = 16 := by rw [List.length_map, hp]
  have ho0 := all_one_byte p
  have tp : List.take 16 (p.map pbyte) = p.map pbyte := List.take_of_length_le (by omega)
  obtain ⟨v, hv⟩ : ∃ v, v = verF p n m s := ⟨_, rfl⟩
  rw [← hv]
  have c0 := valid_c G n
  (refine PCalls_f Tryd.func18 rfl Tryd.ntmps18 Tryd.results18 (by simp) fun fin hfin => ?_; have hnm : True := trivial; simp (maxSteps := 2000000) (disch := omega) only [evb, evd, pbuiltin, constPV, pnck, seqK, blockK, scopeK, pbin, pun, ppick, plen, piaddr, pindex, pfield, pslice, pbound, pconv, pelems, pextract, pmm, PV.mem?, PV.one, PV.cells, pageq, peqs, peq1, pmakes, pstore, pbytes, pmark, pusd, pust, psrc, pkey, pkeys, pnile, pcap, pgrow, List.set, Value.cells, ↓popG_eq, ↓pop.eq_1, ↓List.getElem?_map, ↓List.getElem?_cons_zero, ↓List.getElem?_cons_succ, Value.oneCell', Nat.reduceAdd, Nat.reduceMul, Nat.reduceSub, Nat.reduceLeDiff, Nat.reduceEqDiff, ↓reduceIte, ne_eq, reduceCtorEq, forall_const, exists_and_left, exists_eq_left', eq_self, Nat.reduceLT, Int.reduceLT, Int.reduceLE, Int.reduceToNat, Int.reduceAdd, Int.reduceSub, Int.reduceNeg, hnm, Tryd.tf0, Tryd.tf1, Tryd.tf2, Tryd.tf3, Tryd.tf4, Tryd.tf5, Tryd.tf9, Tryd.teq22, Tryd.tf23, Tryd.teq23, Tryd.tf25, Tryd.teq28, Tryd.tf29, Tryd.tf52, Tryd.tf67, Tryd.tf69, Tryd.teq82, Tryd.teq83, Tryd.teq89, Tryd.teq103, Tryd.teq106, Tryd.call10, Tryd.call16, Tryd.call21, Tryd.call36, Tryd.call38, Tryd.call40])
  by_cases hf : 0 ≤ n ∧ n ≤ 6
  · have f1 : ¬ n < 0 := by omega
    have f2 : ¬ 6 < n := by omega
    have c1 := getInt_c G s (by omega)
    rw [show s.map pbyte = bytes s from rfl] at c1
    obtain ⟨x, u, e, hg⟩ : ∃ x u e, gI s = (x, u, e) := ⟨_, _, _, rfl⟩
    rw [hg] at c1
    have hue := gI_le s
    rw [hg] at hue
    simp only at hue
    by_cases he : e = 0
    · subst he
      obtain ⟨h, rfl⟩ : ∃ h : Nat, n = h := ⟨n.toNat, by omega⟩
      have hh : h ≤ 6 := by omega
      have hsh := shl_op ⟨h, by omega⟩
      simp only at hsh
      obtain ⟨w, hw⟩ : ∃ w, w = 2 ^ h := ⟨_, rfl⟩
      have hw64 := pow_le64 h hh
      rw [← hw] at hsh hw64
      obtain ⟨r, hr⟩ : ∃ r, r = s.drop u := ⟨_, rfl⟩
      have hrl : r.length = s.length - u := by rw [hr, List.length_drop]
      have hbr : bytes r = r.map pbyte := rfl
      by_cases hb : x < 0 ∨ (w : Int) ≤ x ∨ r.length ≠ (68 + h) * 16
      · have hv2 : v = (0, 2) := by
          rw [hv, verF, if_neg (by simpa using hf), hg, if_neg (by simp), if_pos]
          simp only [Int.toNat_natCast]
          rw [← hr]
          rw [hw] at hb
          exact_mod_cast hb
        rw [hv2] at hfin
        by_cases h0 : x < 0
        · repeat' (first
    | (with_reducible apply W_seq_k; intro nx hnx)
    | (with_reducible first | apply W_block | apply W_scope)
    | (with_reducible refine W_prune 55340232221128916767 ?_; simp only [prb, Nat.reducePow, Nat.reduceDiv, Nat.reduceMod, Nat.reduceBEq]; first | (with_reducible apply W_region_l) | with_reducible refine W_region_draw (id := 9) 1 (.op 0 true (.op 1 true (.op 2 true (.op 3 true (.op 4 true (.op 5 true (.op 6 true (.op 7 true (.op 8 true (.op 9 true (.op 10 true (.op 11 true (.op 12 true (.op 13 true (.op 14 true (.op 15 true (.done))))))))))))))))) (by kernel_rfl) ?_ | with_reducible refine W_region_draw (id := 18) 2 (.op 0 true (.op 1 true (.op 2 true (.op 4 true (.op 3 true (.op 5 false (.op 6 false (.done)))))))) (by kernel_rfl) ?_ | with_reducible refine W_region_draw (id := 19) 2 (.op 0 true (.op 1 true (.op 2 true (.op 3 true (.op 4 true (.op 5 false (.op 6 false (.done)))))))) (by kernel_rfl) ?_)
    | ((first | (with_reducible apply WL_op; intro nx hnx) | with_reducible refine Ev_out ?_ | (with_reducible apply popsD_op; intro nx hnx) | (with_reducible refine popsD_alt ?_ ?_; intro nx hnx) | (with_reducible refine pfresh_k hnm fun nm hnm => ?_; (try simp only [fmb] at hnm)) | (with_reducible refine pborn_mu hnm fun nm hnm => ?_; (try simp only [fmb] at hnm))); try (simp (maxSteps := 2000000) (disch := omega) only [evb, evd, pbuiltin, constPV, pnck, seqK, blockK, scopeK, pbin, pun, ppick, plen, piaddr, pindex, pfield, pslice, pbound, pconv, pelems, pextract, pmm, PV.mem?, PV.one, PV.cells, pageq, peqs, peq1, pmakes, pstore, pbytes, pmark, pusd, pust, psrc, pkey, pkeys, pnile, pcap, pgrow, List.set, Value.cells, ↓popG_eq, ↓pop.eq_1, ↓List.getElem?_map, ↓List.getElem?_cons_zero, ↓List.getElem?_cons_succ, Value.oneCell', Nat.reduceAdd, Nat.reduceMul, Nat.reduceSub, Nat.reduceLeDiff, Nat.reduceEqDiff, ↓reduceIte, ne_eq, reduceCtorEq, forall_const, exists_and_left, exists_eq_left', eq_self, Nat.reduceLT, Int.reduceLT, Int.reduceLE, Int.reduceToNat, Int.reduceAdd, Int.reduceSub, Int.reduceNeg, hnm, Tryd.tf0, Tryd.tf1, Tryd.tf2, Tryd.tf3, Tryd.tf4, Tryd.tf5, Tryd.tf9, Tryd.teq22, Tryd.tf23, Tryd.teq23, Tryd.tf25, Tryd.teq28, Tryd.tf29, Tryd.tf52, Tryd.tf67, Tryd.tf69, Tryd.teq82, Tryd.teq83, Tryd.teq89, Tryd.teq103, Tryd.teq106, Tryd.call10, Tryd.call16, Tryd.call21, Tryd.call36, Tryd.call38, Tryd.call40, hl0, ho0, f1, f2, h0, hsh, hue, List.take_length, hbr, List.length_map, ← hr]); repeat (refine And.intro (by omega) ?_))
    | ((with_reducible first | apply WL_nil | apply W_label | apply W_skip | apply W_exit | apply W_ret | apply popsD_done); try simp only [seqK, blockK, scopeK, ↓reduceIte, Nat.reduceEqDiff])
    | with_reducible exact popsD_stop
    | (with_reducible apply pguard_intro <;> (intro hc; (try simp only [hcb, reduceCtorEq, forall_const, ne_eq] at hc); first | (exfalso; omega) | (exfalso; exact hc trivial) | refine Ev_in ?_))
    | (with_reducible apply W_cond_k; intro _ _ ea eb; (simp only [condK, cob, opnd, constPV, Nat.reduceEqDiff, Nat.reduceLT, ↓reduceIte, hcb, reduceCtorEq, forall_const, ne_eq]); subst ea eb; first | (refine ⟨fun hc => ?_, fun hc => ?_⟩ <;> first | (exfalso; omega) | (exfalso; exact hc trivial) | skip) | skip)
    | (with_reducible apply hnx; clear hnx nx)
    | (with_reducible refine And.intro (by omega) ?_)
    | (with_reducible refine And.intro ?_ ?_)
    | (with_reducible refine pcall_k (c0) ?_; rintro _ _ ⟨rfl, rfl⟩ -; refine Ev_in ?_)
    | (with_reducible refine pcall_k (c1) ?_; rintro _ _ ⟨rfl, rfl⟩ -; refine Ev_in ?_)
    | (clear hnx nx; with_reducible apply hnx; clear hnx nx)
    | (clear hnx nx; clear hnx nx; with_reducible apply hnx; clear hnx nx)
    | (clear hnx nx; clear hnx nx; clear hnx nx; with_reducible apply hnx; clear hnx nx))
          all_goals first
            | exact rfl
            | (exfalso
               omega)
            | (intro hh
               exfalso
               simp at hh
               omega)
            | (refine hfin _ _ (Fin_ret2 rfl rfl (Sub_nil _) ?_); simp only [List.getD_cons_zero, List.getD_cons_succ, fr_getD_cons, fr_getD_nil, Nat.reduceEqDiff, Nat.reduceLT, ↓reduceIte]; first | trivial | exact ⟨rfl, by trivial⟩ | (simp; done) | (simp; omega))
        · by_cases h1 : (w : Int) ≤ x
          · repeat' (first
    | (with_reducible apply W_seq_k; intro nx hnx)
    | (with_reducible first | apply W_block | apply W_scope)
    | (with_reducible refine W_prune 55340232221128916767 ?_; simp only [prb, Nat.reducePow, Nat.reduceDiv, Nat.reduceMod, Nat.reduceBEq]; first | (with_reducible apply W_region_l) | with_reducible refine W_region_draw (id := 9) 1 (.op 0 true (.op 1 true (.op 2 true (.op 3 true (.op 4 true (.op 5 true (.op 6 true (.op 7 true (.op 8 true (.op 9 true (.op 10 true (.op 11 true (.op 12 true (.op 13 true (.op 14 true (.op 15 true (.done))))))))))))))))) (by kernel_rfl) ?_ | with_reducible refine W_region_draw (id := 18) 2 (.op 0 true (.op 1 true (.op 2 true (.op 4 true (.op 3 true (.op 5 false (.op 6 false (.done)))))))) (by kernel_rfl) ?_ | with_reducible refine W_region_draw (id := 19) 2 (.op 0 true (.op 1 true (.op 2 true (.op 3 true (.op 4 true (.op 5 false (.op 6 false (.done)))))))) (by kernel_rfl) ?_)
    | ((first | (with_reducible apply WL_op; intro nx hnx) | with_reducible refine Ev_out ?_ | (with_reducible apply popsD_op; intro nx hnx) | (with_reducible refine popsD_alt ?_ ?_; intro nx hnx) | (with_reducible refine pfresh_k hnm fun nm hnm => ?_; (try simp only [fmb] at hnm)) | (with_reducible refine pborn_mu hnm fun nm hnm => ?_; (try simp only [fmb] at hnm))); try (simp (maxSteps := 2000000) (disch := omega) only [evb, evd, pbuiltin, constPV, pnck, seqK, blockK, scopeK, pbin, pun, ppick, plen, piaddr, pindex, pfield, pslice, pbound, pconv, pelems, pextract, pmm, PV.mem?, PV.one, PV.cells, pageq, peqs, peq1, pmakes, pstore, pbytes, pmark, pusd, pust, psrc, pkey, pkeys, pnile, pcap, pgrow, List.set, Value.cells, ↓popG_eq, ↓pop.eq_1, ↓List.getElem?_map, ↓List.getElem?_cons_zero, ↓List.getElem?_cons_succ, Value.oneCell', Nat.reduceAdd, Nat.reduceMul, Nat.reduceSub, Nat.reduceLeDiff, Nat.reduceEqDiff, ↓reduceIte, ne_eq, reduceCtorEq, forall_const, exists_and_left, exists_eq_left', eq_self, Nat.reduceLT, Int.reduceLT, Int.reduceLE, Int.reduceToNat, Int.reduceAdd, Int.reduceSub, Int.reduceNeg, hnm, Tryd.tf0, Tryd.tf1, Tryd.tf2, Tryd.tf3, Tryd.tf4, Tryd.tf5, Tryd.tf9, Tryd.teq22, Tryd.tf23, Tryd.teq23, Tryd.tf25, Tryd.teq28, Tryd.tf29, Tryd.tf52, Tryd.tf67, Tryd.tf69, Tryd.teq82, Tryd.teq83, Tryd.teq89, Tryd.teq103, Tryd.teq106, Tryd.call10, Tryd.call16, Tryd.call21, Tryd.call36, Tryd.call38, Tryd.call40, hl0, ho0, f1, f2, h0, h1, hsh, hue, List.take_length, hbr, List.length_map, ← hr]); repeat (refine And.intro (by omega) ?_))
    | ((with_reducible first | apply WL_nil | apply W_label | apply W_skip | apply W_exit | apply W_ret | apply popsD_done); try simp only [seqK, blockK, scopeK, ↓reduceIte, Nat.reduceEqDiff])
    | with_reducible exact popsD_stop
    | (with_reducible apply pguard_intro <;> (intro hc; (try simp only [hcb, reduceCtorEq, forall_const, ne_eq] at hc); first | (exfalso; omega) | (exfalso; exact hc trivial) | refine Ev_in ?_))
    | (with_reducible apply W_cond_k; intro _ _ ea eb; (simp only [condK, cob, opnd, constPV, Nat.reduceEqDiff, Nat.reduceLT, ↓reduceIte, hcb, reduceCtorEq, forall_const, ne_eq]); subst ea eb; first | (refine ⟨fun hc => ?_, fun hc => ?_⟩ <;> first | (exfalso; omega) | (exfalso; exact hc trivial) | skip) | skip)
    | (with_reducible apply hnx; clear hnx nx)
    | (with_reducible refine And.intro (by omega) ?_)
    | (with_reducible refine And.intro ?_ ?_)
    | (with_reducible refine pcall_k (c0) ?_; rintro _ _ ⟨rfl, rfl⟩ -; refine Ev_in ?_)
    | (with_reducible refine pcall_k (c1) ?_; rintro _ _ ⟨rfl, rfl⟩ -; refine Ev_in ?_)
    | (clear hnx nx; with_reducible apply hnx; clear hnx nx)
    | (clear hnx nx; clear hnx nx; with_reducible apply hnx; clear hnx nx)
    | (clear hnx nx; clear hnx nx; clear hnx nx; with_reducible apply hnx; clear hnx nx))
            all_goals first
              | exact rfl
              | (exfalso
                 omega)
              | (intro hh
                 exfalso
                 simp at hh
                 omega)
              | (refine hfin _ _ (Fin_ret2 rfl rfl (Sub_nil _) ?_); simp only [List.getD_cons_zero, List.getD_cons_succ, fr_getD_cons, fr_getD_nil, Nat.reduceEqDiff, Nat.reduceLT, ↓reduceIte]; first | trivial | exact ⟨rfl, by trivial⟩ | (simp; done) | (simp; omega))
          · have h2 : ¬ r.length = (68 + h) * 16 := by
              rcases hb with h3 | h3 | h3
              · exact absurd h3 h0
              · exact absurd h3 h1
              · exact h3
            have h3 : ¬ (r.length : Int) = (68 + (h : Int)) * 16 := by omega
            have h4 : x < (w : Int) := by omega
            repeat' (first
    | (with_reducible apply W_seq_k; intro nx hnx)
    | (with_reducible first | apply W_block | apply W_scope)
    | (with_reducible refine W_prune 55340232221128916767 ?_; simp only [prb, Nat.reducePow, Nat.reduceDiv, Nat.reduceMod, Nat.reduceBEq]; first | (with_reducible apply W_region_l) | with_reducible refine W_region_draw (id := 9) 1 (.op 0 true (.op 1 true (.op 2 true (.op 3 true (.op 4 true (.op 5 true (.op 6 true (.op 7 true (.op 8 true (.op 9 true (.op 10 true (.op 11 true (.op 12 true (.op 13 true (.op 14 true (.op 15 true (.done))))))))))))))))) (by kernel_rfl) ?_ | with_reducible refine W_region_draw (id := 18) 2 (.op 0 true (.op 1 true (.op 2 true (.op 4 true (.op 3 true (.op 5 false (.op 6 false (.done)))))))) (by kernel_rfl) ?_ | with_reducible refine W_region_draw (id := 19) 2 (.op 0 true (.op 1 true (.op 2 true (.op 3 true (.op 4 true (.op 5 false (.op 6 false (.done)))))))) (by kernel_rfl) ?_)
    | ((first | (with_reducible apply WL_op; intro nx hnx) | with_reducible refine Ev_out ?_ | (with_reducible apply popsD_op; intro nx hnx) | (with_reducible refine popsD_alt ?_ ?_; intro nx hnx) | (with_reducible refine pfresh_k hnm fun nm hnm => ?_; (try simp only [fmb] at hnm)) | (with_reducible refine pborn_mu hnm fun nm hnm => ?_; (try simp only [fmb] at hnm))); try (simp (maxSteps := 2000000) (disch := omega) only [evb, evd, pbuiltin, constPV, pnck, seqK, blockK, scopeK, pbin, pun, ppick, plen, piaddr, pindex, pfield, pslice, pbound, pconv, pelems, pextract, pmm, PV.mem?, PV.one, PV.cells, pageq, peqs, peq1, pmakes, pstore, pbytes, pmark, pusd, pust, psrc, pkey, pkeys, pnile, pcap, pgrow, List.set, Value.cells, ↓popG_eq, ↓pop.eq_1, ↓List.getElem?_map, ↓List.getElem?_cons_zero, ↓List.getElem?_cons_succ, Value.oneCell', Nat.reduceAdd, Nat.reduceMul, Nat.reduceSub, Nat.reduceLeDiff, Nat.reduceEqDiff, ↓reduceIte, ne_eq, reduceCtorEq, forall_const, exists_and_left, exists_eq_left', eq_self, Nat.reduceLT, Int.reduceLT, Int.reduceLE, Int.reduceToNat, Int.reduceAdd, Int.reduceSub, Int.reduceNeg, hnm, Tryd.tf0, Tryd.tf1, Tryd.tf2, Tryd.tf3, Tryd.tf4, Tryd.tf5, Tryd.tf9, Tryd.teq22, Tryd.tf23, Tryd.teq23, Tryd.tf25, Tryd.teq28, Tryd.tf29, Tryd.tf52, Tryd.tf67, Tryd.tf69, Tryd.teq82, Tryd.teq83, Tryd.teq89, Tryd.teq103, Tryd.teq106, Tryd.call10, Tryd.call16, Tryd.call21, Tryd.call36, Tryd.call38, Tryd.call40, hl0, ho0, f1, f2, h0, h4, h3, hsh, hue, List.take_length, hbr, List.length_map, ← hr]); repeat (refine And.intro (by omega) ?_))
    | ((with_reducible first | apply WL_nil | apply W_label | apply W_skip | apply W_exit | apply W_ret | apply popsD_done); try simp only [seqK, blockK, scopeK, ↓reduceIte, Nat.reduceEqDiff])
    | with_reducible exact popsD_stop
    | (with_reducible apply pguard_intro <;> (intro hc; (try simp only [hcb, reduceCtorEq, forall_const, ne_eq] at hc); first | (exfalso; omega) | (exfalso; exact hc trivial) | refine Ev_in ?_))
    | (with_reducible apply W_cond_k; intro _ _ ea eb; (simp only [condK, cob, opnd, constPV, Nat.reduceEqDiff, Nat.reduceLT, ↓reduceIte, hcb, reduceCtorEq, forall_const, ne_eq]); subst ea eb; first | (refine ⟨fun hc => ?_, fun hc => ?_⟩ <;> first | (exfalso; omega) | (exfalso; exact hc trivial) | skip) | skip)
    | (with_reducible apply hnx; clear hnx nx)
    | (with_reducible refine And.intro (by omega) ?_)
    | (with_reducible refine And.intro ?_ ?_)
    | (with_reducible refine pcall_k (c0) ?_; rintro _ _ ⟨rfl, rfl⟩ -; refine Ev_in ?_)
    | (with_reducible refine pcall_k (c1) ?_; rintro _ _ ⟨rfl, rfl⟩ -; refine Ev_in ?_)
    | (clear hnx nx; with_reducible apply hnx; clear hnx nx)
    | (clear hnx nx; clear hnx nx; with_reducible apply hnx; clear hnx nx)
    | (clear hnx nx; clear hnx nx; clear hnx nx; with_reducible apply hnx; clear hnx nx))
            all_goals first
              | exact rfl
              | (exfalso
                 omega)
              | (intro hh
                 exfalso
                 simp at hh
                 omega)
              | (refine hfin _ _ (Fin_ret2 rfl rfl (Sub_nil _) ?_); simp only [List.getD_cons_zero, List.getD_cons_succ, fr_getD_cons, fr_getD_nil, Nat.reduceEqDiff, Nat.reduceLT, ↓reduceIte]; first | trivial | exact ⟨rfl, by trivial⟩ | (simp; done) | (simp; omega))
      · have h0 : ¬ x < 0 := fun h => hb (.inl h)
        have h4 : x < (w : Int) := by
          have : ¬ (w : Int) ≤ x := fun h => hb (.inr (.inl h))
          omega
        have h3 : r.length = (68 + h) * 16 := by
          by_cases h5 : r.length = (68 + h) * 16
          · exact h5
          · exact absurd (.inr (.inr h5)) hb
        have h6 : (r.length : Int) = (68 + (h : Int)) * 16 := by omega
        obtain ⟨k, rfl⟩ : ∃ k : Nat, x = k := ⟨x.toNat, by omega⟩
        have hi : inR (k : Int) := ⟨by omega, by omega⟩
        have hroot : v = if rootF p h k m r = p then ((k : Int), 0) else (0, 10) := by
          rw [hv, verF, if_neg (by simpa using hf), hg, if_neg (by simp), if_neg]
          · simp only [Int.toNat_natCast]
            rw [← hr]
          · simp only [Int.toNat_natCast]
            rw [← hr]
            rw [hw] at hb
            exact_mod_cast hb
        have hE : rootF p h k m r = wayF r k (leafF (vfV k (digF (digestF p k m)) r)) h := rfl
        rw [hE] at hroot
        clear hE
        have c2 := hdig_c G hG p k m hp hi hm
        have hdl := digestF_len p k m
        have c3 := dig_c G (digestF p k m) hdl
        have cc := fun c hc => chain_c G hG r (68 + h) h3 (by omega) (by omega) k hi (digestF p k m) c hc
        have cl := leaf_c G hG 39 [.iptr [pint .i64 k] 0, .iptr [.list 1 ((digF (digestF p k m)).map pn')] 0, .iptr [.func 37 [.iptr [.list 1 (r.map pbyte)] 0]] 0] (vfV k (digF (digestF p k m)) r) (fun c hc => advF_len _ _ _ _ _ (restV_len h3 (by omega))) (by kernel_rfl) cc
        clear cc
        have hol := leafF_len (vfV k (digF (digestF p k m)) r)
        have hbr : bytes r = r.map pbyte := rfl
        generalize leafF (vfV k (digF (digestF p k m)) r) = f at *
        generalize digF (digestF p k m) = q at *
        generalize digestF p k m = d at *
        have hmr : (r.map pbyte).length = (68 + h) * 16 := by rw [List.length_map, h3]
        repeat' (first
    | (with_reducible apply W_seq_k; intro nx hnx)
    | (with_reducible first | apply W_block | apply W_scope)
    | (with_reducible refine W_prune 55340232221128916767 ?_; simp only [prb, Nat.reducePow, Nat.reduceDiv, Nat.reduceMod, Nat.reduceBEq]; first | (with_reducible apply W_region_l) | with_reducible refine W_region_draw (id := 9) 1 (.op 0 true (.op 1 true (.op 2 true (.op 3 true (.op 4 true (.op 5 true (.op 6 true (.op 7 true (.op 8 true (.op 9 true (.op 10 true (.op 11 true (.op 12 true (.op 13 true (.op 14 true (.op 15 true (.done))))))))))))))))) (by kernel_rfl) ?_ | with_reducible refine W_region_draw (id := 18) 2 (.op 0 true (.op 1 true (.op 2 true (.op 4 true (.op 3 true (.op 5 false (.op 6 false (.done)))))))) (by kernel_rfl) ?_ | with_reducible refine W_region_draw (id := 19) 2 (.op 0 true (.op 1 true (.op 2 true (.op 3 true (.op 4 true (.op 5 false (.op 6 false (.done)))))))) (by kernel_rfl) ?_)
    | ((first | (with_reducible apply WL_op; intro nx hnx) | with_reducible refine Ev_out ?_ | (with_reducible apply popsD_op; intro nx hnx) | (with_reducible refine popsD_alt ?_ ?_; intro nx hnx) | (with_reducible refine pfresh_k hnm fun nm hnm => ?_; (try simp only [fmb] at hnm)) | (with_reducible refine pborn_mu hnm fun nm hnm => ?_; (try simp only [fmb] at hnm))); try (simp (maxSteps := 2000000) (disch := omega) only [evb, evd, pbuiltin, constPV, pnck, seqK, blockK, scopeK, pbin, pun, ppick, plen, piaddr, pindex, pfield, pslice, pbound, pconv, pelems, pextract, pmm, PV.mem?, PV.one, PV.cells, pageq, peqs, peq1, pmakes, pstore, pbytes, pmark, pusd, pust, psrc, pkey, pkeys, pnile, pcap, pgrow, List.set, Value.cells, ↓popG_eq, ↓pop.eq_1, ↓List.getElem?_map, ↓List.getElem?_cons_zero, ↓List.getElem?_cons_succ, Value.oneCell', Nat.reduceAdd, Nat.reduceMul, Nat.reduceSub, Nat.reduceLeDiff, Nat.reduceEqDiff, ↓reduceIte, ne_eq, reduceCtorEq, forall_const, exists_and_left, exists_eq_left', eq_self, Nat.reduceLT, Int.reduceLT, Int.reduceLE, Int.reduceToNat, Int.reduceAdd, Int.reduceSub, Int.reduceNeg, hnm, Tryd.tf0, Tryd.tf1, Tryd.tf2, Tryd.tf3, Tryd.tf4, Tryd.tf5, Tryd.tf9, Tryd.teq22, Tryd.tf23, Tryd.teq23, Tryd.tf25, Tryd.teq28, Tryd.tf29, Tryd.tf52, Tryd.tf67, Tryd.tf69, Tryd.teq82, Tryd.teq83, Tryd.teq89, Tryd.teq103, Tryd.teq106, Tryd.call10, Tryd.call16, Tryd.call21, Tryd.call36, Tryd.call38, Tryd.call40, hl0, ho0, tp, f1, f2, h0, h4, h6, h3, hmr, hbr, hsh, hue, List.take_length, ← hr]); repeat (refine And.intro (by omega) ?_))
    | ((with_reducible first | apply WL_nil | apply W_label | apply W_skip | apply W_exit | apply W_ret | apply popsD_done); try simp only [seqK, blockK, scopeK, ↓reduceIte, Nat.reduceEqDiff])
    | with_reducible exact popsD_stop
    | (with_reducible apply pguard_intro <;> (intro hc; (try simp only [hcb, reduceCtorEq, forall_const, ne_eq] at hc); first | (exfalso; omega) | (exfalso; exact hc trivial) | refine Ev_in ?_))
    | (with_reducible apply W_cond_k; intro _ _ ea eb; (simp only [condK, cob, opnd, constPV, Nat.reduceEqDiff, Nat.reduceLT, ↓reduceIte, hcb, reduceCtorEq, forall_const, ne_eq]); subst ea eb; first | (refine ⟨fun hc => ?_, fun hc => ?_⟩ <;> first | (exfalso; omega) | (exfalso; exact hc trivial) | skip) | skip)
    | (with_reducible apply hnx; clear hnx nx)
    | (with_reducible refine And.intro (by omega) ?_)
    | (with_reducible refine And.intro ?_ ?_)
    | (with_reducible refine pcall_k (c0) ?_; rintro _ _ ⟨rfl, rfl⟩ -; refine Ev_in ?_)
    | (with_reducible refine pcall_k (c1) ?_; rintro _ _ ⟨rfl, rfl⟩ -; refine Ev_in ?_)
    | (with_reducible refine pcall_k (c2) ?_; rintro _ _ ⟨rfl, rfl⟩ -; refine Ev_in ?_)
    | (with_reducible refine pcall_k (c3) ?_; rintro _ _ ⟨rfl, rfl⟩ -; refine Ev_in ?_)
    | (clear hnx nx; with_reducible apply hnx; clear hnx nx)
    | (clear hnx nx; clear hnx nx; with_reducible apply hnx; clear hnx nx)
    | (clear hnx nx; clear hnx nx; clear hnx nx; with_reducible apply hnx; clear hnx nx))
        all_goals first
          | exact absurd trivial hc
          | exact rfl
          | (exfalso
             omega)
          | (intro hh
             exfalso
             simp at hh
             done)
          | (intro hh
             exfalso
             simp at hh
             omega)
          | skip
        obtain ⟨N15, hN15⟩ : ∃ N, N = nm := ⟨_, rfl⟩
        subst hN15
        obtain ⟨N14, hN14⟩ : ∃ N, N = nm := ⟨_, rfl⟩
        subst hN14
        obtain ⟨N13, hN13⟩ : ∃ N, N = nm := ⟨_, rfl⟩
        subst hN13
        obtain ⟨N10, hN10⟩ : ∃ N, N = nm := ⟨_, rfl⟩
        subst hN10
        obtain ⟨NP, hNP⟩ : ∃ N, N = nm := ⟨_, rfl⟩
        subst hNP
        have hpb := frz_pb
        refine pcall_lendL [.func 39 [.iptr [pint .i64 k] 0, .iptr [.list 1 (q.map pn')] 0, .iptr [.func 37 [.iptr [.list 1 (r.map pbyte)] 0]] 0]] (R := fun res H => res = .agg (f.map pbyte) ∧ H = [])
          (.step N13 ⟨52, false, 0, [.list 1 (r.map pbyte)]⟩ (by simp [look, hnm]) (by
            simp only [del, hnm, if_false, if_true, List.forall_mem_cons, List.not_mem_nil, false_implies, implies_true, and_true]
            exact ⟨rfl, rfl, rfl, hpb _ _ _⟩)
          (.step N14 ⟨69, false, 0, [.func 37 [.iptr [.list 1 (r.map pbyte)] 0]]⟩ (by simp [look, frzD, del, frz, frz1, hnm]) (by
            simp [frzD, del, frz, frz1, hnm, PV.one, Value.oneCell'])
          (.step N10 ⟨3, false, 0, [pint .i64 k]⟩ (by simp [look, frzD, del, frz, frz1, hnm]) (by
            simp [frzD, del, frz, frz1, hnm, PV.one, Value.oneCell'])
          (.step N15 ⟨25, false, 0, [.list 1 (q.map pn')]⟩ (by simp [look, frzD, del, frz, frz1, hnm]) (by
            simp [frzD, del, frz, frz1, hnm, PV.one, Value.oneCell'])
          (.done _ (by simp [frz, frz1, hnm])))))) cl ?_
        rintro _ _ ⟨rfl, rfl⟩
        refine ⟨rfl, Flat_all fun c hc => ?_, ?_⟩
        · obtain ⟨b, _, rfl⟩ := List.mem_map.1 hc
          exact ⟨_, rfl⟩
        clear cl c0 c1 c2 c3 hpb hdl
        have hne := hnm
        clear hnm
        have hfo := all_one_byte f
        have hfl : (f.map pbyte).length = 16 := by rw [List.length_map, hol]
        have tf : List.take 16 (f.map pbyte) = f.map pbyte := List.take_of_length_le (by omega)
        obtain ⟨Z, hZ⟩ : ∃ Z, Z = List.replicate 16 (pint .u8 0) := ⟨_, rfl⟩
        have hZ2 : [pint .u8 0, pint .u8 0, pint .u8 0, pint .u8 0, pint .u8 0, pint .u8 0, pint .u8 0, pint .u8 0, pint .u8 0, pint .u8 0, pint .u8 0, pint .u8 0, pint .u8 0, pint .u8 0, pint .u8 0, pint .u8 0] = Z := by rw [hZ]; rfl
        have hZl : Z.length = 16 := by rw [hZ]; rfl
        have hZd : List.drop 16 Z = [] := List.drop_of_length_le (by omega)
        have hZo : Z.all PV.one = true := by rw [hZ]; rfl
        refine Ev_in ?_
        repeat' (first
    | (with_reducible apply W_seq_k; intro nx hnx)
    | (with_reducible first | apply W_block | apply W_scope)
    | (with_reducible refine W_prune 55340232221128916767 ?_; simp only [prb, Nat.reducePow, Nat.reduceDiv, Nat.reduceMod, Nat.reduceBEq]; first | (with_reducible apply W_region_l) | with_reducible refine W_region_draw (id := 9) 1 (.op 0 true (.op 1 true (.op 2 true (.op 3 true (.op 4 true (.op 5 true (.op 6 true (.op 7 true (.op 8 true (.op 9 true (.op 10 true (.op 11 true (.op 12 true (.op 13 true (.op 14 true (.op 15 true (.done))))))))))))))))) (by kernel_rfl) ?_ | with_reducible refine W_region_draw (id := 18) 2 (.op 0 true (.op 1 true (.op 2 true (.op 4 true (.op 3 true (.op 5 false (.op 6 false (.done)))))))) (by kernel_rfl) ?_ | with_reducible refine W_region_draw (id := 19) 2 (.op 0 true (.op 1 true (.op 2 true (.op 3 true (.op 4 true (.op 5 false (.op 6 false (.done)))))))) (by kernel_rfl) ?_)
    | ((first | (with_reducible apply WL_op; intro nx hnx) | with_reducible refine Ev_out ?_ | (with_reducible apply popsD_op; intro nx hnx) | (with_reducible refine popsD_alt ?_ ?_; intro nx hnx) | (with_reducible refine pfresh_k hnm fun nm hnm => ?_; (try simp only [fmb] at hnm)) | (with_reducible refine pborn_mu hnm fun nm hnm => ?_; (try simp only [fmb] at hnm))); try (simp (maxSteps := 2000000) (disch := omega) only [evb, evd, pbuiltin, constPV, pnck, seqK, blockK, scopeK, pbin, pun, ppick, plen, piaddr, pindex, pfield, pslice, pbound, pconv, pelems, pextract, pmm, PV.mem?, PV.one, PV.cells, pageq, peqs, peq1, pmakes, pstore, pbytes, pmark, pusd, pust, psrc, pkey, pkeys, pnile, pcap, pgrow, List.set, Value.cells, ↓popG_eq, ↓pop.eq_1, ↓List.getElem?_map, ↓List.getElem?_cons_zero, ↓List.getElem?_cons_succ, Value.oneCell', Nat.reduceAdd, Nat.reduceMul, Nat.reduceSub, Nat.reduceLeDiff, Nat.reduceEqDiff, ↓reduceIte, ne_eq, reduceCtorEq, forall_const, exists_and_left, exists_eq_left', eq_self, Nat.reduceLT, Int.reduceLT, Int.reduceLE, Int.reduceToNat, Int.reduceAdd, Int.reduceSub, Int.reduceNeg, hnm, Tryd.tf0, Tryd.tf1, Tryd.tf2, Tryd.tf3, Tryd.tf4, Tryd.tf5, Tryd.tf9, Tryd.teq22, Tryd.tf23, Tryd.teq23, Tryd.tf25, Tryd.teq28, Tryd.tf29, Tryd.tf52, Tryd.tf67, Tryd.tf69, Tryd.teq82, Tryd.teq83, Tryd.teq89, Tryd.teq103, Tryd.teq106, Tryd.call10, Tryd.call16, Tryd.call21, Tryd.call36, Tryd.call38, Tryd.call40, hne, hfo, hfl, tf, hZ2, hZl, hZd, hZo]); repeat (refine And.intro (by omega) ?_))
    | ((with_reducible first | apply WL_nil | apply W_label | apply W_skip | apply W_exit | apply W_ret | apply popsD_done); try simp only [seqK, blockK, scopeK, ↓reduceIte, Nat.reduceEqDiff])
    | with_reducible exact popsD_stop
    | (with_reducible apply pguard_intro <;> (intro hc; (try simp only [hcb, reduceCtorEq, forall_const, ne_eq] at hc); first | (exfalso; omega) | (exfalso; exact hc trivial) | refine Ev_in ?_))
    | (with_reducible apply W_cond_k; intro _ _ ea eb; (simp only [condK, cob, opnd, constPV, Nat.reduceEqDiff, Nat.reduceLT, ↓reduceIte, hcb, reduceCtorEq, forall_const, ne_eq]); subst ea eb; first | (refine ⟨fun hc => ?_, fun hc => ?_⟩ <;> first | (exfalso; omega) | (exfalso; exact hc trivial) | skip) | skip)
    | (with_reducible apply hnx; clear hnx nx)
    | (with_reducible refine And.intro (by omega) ?_)
    | (with_reducible refine And.intro ?_ ?_)
    | (clear hnx nx; with_reducible apply hnx; clear hnx nx)
    | (clear hnx nx; clear hnx nx; with_reducible apply hnx; clear hnx nx)
    | (clear hnx nx; clear hnx nx; clear hnx nx; with_reducible apply hnx; clear hnx nx))
        all_goals first
          | exact rfl
          | (exfalso
             omega)
          | skip
        obtain ⟨NV, hNV⟩ : ∃ N, N = nm := ⟨_, rfl⟩
        subst hNV
        have hway := wayF_len r k f hol
        have hne2 := hnm
        have hca : callable Tryd.prog 37 = true := by kernel_rfl
        refine W_loop_k (fun z τ => ∃ (l : Nat) (y : List UInt8), l ≤ h ∧ z = h - l ∧ y = wayF r k f l ∧
            τ = ⟨fr 90 [(65, pint .i64 l), (64, pint .i64 h), (16, .ptr NV 0), (14, .ptr N14 0), (10, .ptr N10 0), (4, .ptr NP 0)],
              [(NV, ⟨23, false, 0, y.map pbyte⟩), (N14, ⟨69, false, 0, [.func 37 [.ptr N13 0]]⟩), (N13, ⟨52, false, 0, [.list 1 (r.map pbyte)]⟩), (N10, ⟨3, false, 0, [pint .i64 k]⟩), (NP, ⟨23, false, 0, p.map pbyte⟩)]⟩) h
          ⟨fr 90 [(65, pint .i64 (0 : Nat)), (64, pint .i64 h), (16, .ptr NV 0), (14, .ptr N14 0), (10, .ptr N10 0), (4, .ptr NP 0)],
              [(NV, ⟨23, false, 0, f.map pbyte⟩), (N14, ⟨69, false, 0, [.func 37 [.ptr N13 0]]⟩), (N13, ⟨52, false, 0, [.list 1 (r.map pbyte)]⟩), (N10, ⟨3, false, 0, [pint .i64 k]⟩), (NP, ⟨23, false, 0, p.map pbyte⟩)]⟩ (by
          refine Wk_fr (by simp only [wkb, Nat.reduceEqDiff, Nat.reduceLT, ↓reduceIte]) ?_
          exact ⟨by simp, by simp [names, hne2, hne]⟩) ⟨0, f, by omega, by omega, rfl, rfl⟩ ?_
        rintro z τ ⟨l, y, hl, rfl, hy, rfl⟩ lp2 hlp2
        have hyl : y.length = 16 := by rw [hy, hway]
        have hoy := all_one_byte y
        have hyl2 : (y.map pbyte).length = 16 := by rw [List.length_map, hyl]
        have ty : List.take 16 (y.map pbyte) = y.map pbyte := List.take_of_length_le (by omega)
        have hyd : List.drop 16 (y.map pbyte) = [] := List.drop_of_length_le (by omega)
        by_cases hlh : l < h
        · have hway2 : wayF r k f (l + 1) = if (k / 2 ^ l) % 2 = 1 then nodeF (restV r (68 + l)) (wayF r k f l) else nodeF (wayF r k f l) (restV r (68 + l)) := rfl
          rw [← hy] at hway2
          have hv16 : (restV r (68 + l)).length = 16 := restV_len h3 (by omega)
          have d2 := node_c G hG (restV r (68 + l)) y hv16 hyl
          have d3 := node_c G hG y (restV r (68 + l)) hyl hv16
          have hn1 := nodeF_len (restV r (68 + l)) y
          have hn2 := nodeF_len y (restV r (68 + l))
          have hwl : (wayF r k f (l + 1)).length = 16 := hway (l + 1)
          have g1 := shr_op k l (by omega)
          have hj64 : k / 2 ^ l ≤ 64 := Nat.le_trans (Nat.div_le_self _ _) (by omega)
          have g2 := and_one ⟨k / 2 ^ l, by omega⟩
          simp only at g2
          have hcx : pint .i64 (68 + (l : Int)) = pint .i64 ((68 + l : Nat) : Int) := congrArg (pint .i64) (by omega)
          have vl := fun (σ : PState) (q : Bool) (d : Option Tmp) (K : PState → Prop) => @value_lend G σ q d K N13 r (68 + h) h3 (by omega) (pint .i64 (68 + (l : Int))) (68 + l) (by omega) hcx
          have hx2 : ((restV r (68 + l)).map pbyte).length = 16 := by rw [List.length_map, hv16]
          have tx : List.take 16 ((restV r (68 + l)).map pbyte) = (restV r (68 + l)).map pbyte := List.take_of_length_le (by omega)
          have hox := all_one_byte (restV r (68 + l))
          generalize restV r (68 + l) = x2 at *
          generalize k / 2 ^ l = j at *
          by_cases hodd : j % 2 = 1
          · rw [if_pos hodd] at hway2
            rw [hodd] at g2
            generalize nodeF x2 y = z2 at *
            have hoz := all_one_byte z2
            have hz2 : (z2.map pbyte).length = 16 := by rw [List.length_map, hn1]
            have tz : List.take 16 (z2.map pbyte) = z2.map pbyte := List.take_of_length_le (by omega)
            repeat' (first
    | (with_reducible apply W_seq_k; intro nx hnx)
    | (with_reducible first | apply W_block | apply W_scope)
    | (with_reducible refine W_prune 55340232221128916767 ?_; simp only [prb, Nat.reducePow, Nat.reduceDiv, Nat.reduceMod, Nat.reduceBEq]; first | (with_reducible apply W_region_l) | with_reducible refine W_region_draw (id := 9) 1 (.op 0 true (.op 1 true (.op 2 true (.op 3 true (.op 4 true (.op 5 true (.op 6 true (.op 7 true (.op 8 true (.op 9 true (.op 10 true (.op 11 true (.op 12 true (.op 13 true (.op 14 true (.op 15 true (.done))))))))))))))))) (by kernel_rfl) ?_ | with_reducible refine W_region_draw (id := 18) 2 (.op 0 true (.op 1 true (.op 2 true (.op 4 true (.op 3 true (.op 5 false (.op 6 false (.done)))))))) (by kernel_rfl) ?_ | with_reducible refine W_region_draw (id := 19) 2 (.op 0 true (.op 1 true (.op 2 true (.op 3 true (.op 4 true (.op 5 false (.op 6 false (.done)))))))) (by kernel_rfl) ?_)
    | ((first | (with_reducible apply WL_op; intro nx hnx) | with_reducible refine Ev_out ?_ | (with_reducible apply popsD_op; intro nx hnx) | (with_reducible refine popsD_alt ?_ ?_; intro nx hnx) | (with_reducible refine pfresh_k hnm fun nm hnm => ?_; (try simp only [fmb] at hnm)) | (with_reducible refine pborn_mu hnm fun nm hnm => ?_; (try simp only [fmb] at hnm))); try (simp (maxSteps := 2000000) (disch := omega) only [evb, evd, pbuiltin, constPV, pnck, seqK, blockK, scopeK, pbin, pun, ppick, plen, piaddr, pindex, pfield, pslice, pbound, pconv, pelems, pextract, pmm, PV.mem?, PV.one, PV.cells, pageq, peqs, peq1, pmakes, pstore, pbytes, pmark, pusd, pust, psrc, pkey, pkeys, pnile, pcap, pgrow, List.set, Value.cells, ↓popG_eq, ↓pop.eq_1, ↓List.getElem?_map, ↓List.getElem?_cons_zero, ↓List.getElem?_cons_succ, Value.oneCell', Nat.reduceAdd, Nat.reduceMul, Nat.reduceSub, Nat.reduceLeDiff, Nat.reduceEqDiff, ↓reduceIte, ne_eq, reduceCtorEq, forall_const, exists_and_left, exists_eq_left', eq_self, Nat.reduceLT, Int.reduceLT, Int.reduceLE, Int.reduceToNat, Int.reduceAdd, Int.reduceSub, Int.reduceNeg, hnm, Tryd.tf0, Tryd.tf1, Tryd.tf2, Tryd.tf3, Tryd.tf4, Tryd.tf5, Tryd.tf9, Tryd.teq22, Tryd.tf23, Tryd.teq23, Tryd.tf25, Tryd.teq28, Tryd.tf29, Tryd.tf52, Tryd.tf67, Tryd.tf69, Tryd.teq82, Tryd.teq83, Tryd.teq89, Tryd.teq103, Tryd.teq106, Tryd.call10, Tryd.call16, Tryd.call21, Tryd.call36, Tryd.call38, Tryd.call40, hca, hne2, hne, hlh, hoy, hyl2, ty, hyd, hox, hx2, tx, hoz, hz2, tz, g1, g2]); repeat (refine And.intro (by omega) ?_))
    | ((with_reducible first | apply WL_nil | apply W_label | apply W_skip | apply W_exit | apply W_ret | apply popsD_done); try simp only [seqK, blockK, scopeK, ↓reduceIte, Nat.reduceEqDiff])
    | with_reducible exact popsD_stop
    | (with_reducible apply pguard_intro <;> (intro hc; (try simp only [hcb, reduceCtorEq, forall_const, ne_eq] at hc); first | (exfalso; omega) | (exfalso; exact hc trivial) | refine Ev_in ?_))
    | (with_reducible apply W_cond_k; intro _ _ ea eb; (simp only [condK, cob, opnd, constPV, Nat.reduceEqDiff, Nat.reduceLT, ↓reduceIte, hcb, reduceCtorEq, forall_const, ne_eq]); subst ea eb; first | (refine ⟨fun hc => ?_, fun hc => ?_⟩ <;> first | (exfalso; omega) | (exfalso; exact hc trivial) | skip) | skip)
    | (with_reducible apply hnx; clear hnx nx)
    | (with_reducible refine And.intro (by omega) ?_)
    | (with_reducible refine And.intro ?_ ?_)
    | (with_reducible refine pcall_k (d2) ?_; rintro _ _ ⟨rfl, rfl⟩ -; refine Ev_in ?_)
    | ((refine vl _ _ _ _ (by simp [look, hne2, hne]) ?_; refine Ev_in ?_))
    | (clear hnx nx; with_reducible apply hnx; clear hnx nx)
    | (clear hnx nx; clear hnx nx; with_reducible apply hnx; clear hnx nx)
    | (clear hnx nx; clear hnx nx; clear hnx nx; with_reducible apply hnx; clear hnx nx))
            all_goals first
              | exact rfl
              | (exfalso
                 omega)
              | (refine hlp2 _ (h - (l + 1)) _ (by omega) ?_ ⟨l + 1, z2, by omega, rfl, hway2.symm, rfl⟩
                 refine Wk_fr (by simp only [wkb, Nat.reduceEqDiff, Nat.reduceLT, ↓reduceIte]) ?_
                 exact ⟨by simp, by simp [names, hne2, hne]⟩)
          · rw [if_neg hodd] at hway2
            rw [show j % 2 = 0 by omega] at g2
            generalize nodeF y x2 = z2 at *
            have hoz := all_one_byte z2
            have hz2 : (z2.map pbyte).length = 16 := by rw [List.length_map, hn2]
            have tz : List.take 16 (z2.map pbyte) = z2.map pbyte := List.take_of_length_le (by omega)
            repeat' (first
    | (with_reducible apply W_seq_k; intro nx hnx)
    | (with_reducible first | apply W_block | apply W_scope)
    | (with_reducible refine W_prune 55340232221128916767 ?_; simp only [prb, Nat.reducePow, Nat.reduceDiv, Nat.reduceMod, Nat.reduceBEq]; first | (with_reducible apply W_region_l) | with_reducible refine W_region_draw (id := 9) 1 (.op 0 true (.op 1 true (.op 2 true (.op 3 true (.op 4 true (.op 5 true (.op 6 true (.op 7 true (.op 8 true (.op 9 true (.op 10 true (.op 11 true (.op 12 true (.op 13 true (.op 14 true (.op 15 true (.done))))))))))))))))) (by kernel_rfl) ?_ | with_reducible refine W_region_draw (id := 18) 2 (.op 0 true (.op 1 true (.op 2 true (.op 4 true (.op 3 true (.op 5 false (.op 6 false (.done)))))))) (by kernel_rfl) ?_ | with_reducible refine W_region_draw (id := 19) 2 (.op 0 true (.op 1 true (.op 2 true (.op 3 true (.op 4 true (.op 5 false (.op 6 false (.done)))))))) (by kernel_rfl) ?_)
    | ((first | (with_reducible apply WL_op; intro nx hnx) | with_reducible refine Ev_out ?_ | (with_reducible apply popsD_op; intro nx hnx) | (with_reducible refine popsD_alt ?_ ?_; intro nx hnx) | (with_reducible refine pfresh_k hnm fun nm hnm => ?_; (try simp only [fmb] at hnm)) | (with_reducible refine pborn_mu hnm fun nm hnm => ?_; (try simp only [fmb] at hnm))); try (simp (maxSteps := 2000000) (disch := omega) only [evb, evd, pbuiltin, constPV, pnck, seqK, blockK, scopeK, pbin, pun, ppick, plen, piaddr, pindex, pfield, pslice, pbound, pconv, pelems, pextract, pmm, PV.mem?, PV.one, PV.cells, pageq, peqs, peq1, pmakes, pstore, pbytes, pmark, pusd, pust, psrc, pkey, pkeys, pnile, pcap, pgrow, List.set, Value.cells, ↓popG_eq, ↓pop.eq_1, ↓List.getElem?_map, ↓List.getElem?_cons_zero, ↓List.getElem?_cons_succ, Value.oneCell', Nat.reduceAdd, Nat.reduceMul, Nat.reduceSub, Nat.reduceLeDiff, Nat.reduceEqDiff, ↓reduceIte, ne_eq, reduceCtorEq, forall_const, exists_and_left, exists_eq_left', eq_self, Nat.reduceLT, Int.reduceLT, Int.reduceLE, Int.reduceToNat, Int.reduceAdd, Int.reduceSub, Int.reduceNeg, hnm, Tryd.tf0, Tryd.tf1, Tryd.tf2, Tryd.tf3, Tryd.tf4, Tryd.tf5, Tryd.tf9, Tryd.teq22, Tryd.tf23, Tryd.teq23, Tryd.tf25, Tryd.teq28, Tryd.tf29, Tryd.tf52, Tryd.tf67, Tryd.tf69, Tryd.teq82, Tryd.teq83, Tryd.teq89, Tryd.teq103, Tryd.teq106, Tryd.call10, Tryd.call16, Tryd.call21, Tryd.call36, Tryd.call38, Tryd.call40, hca, hne2, hne, hlh, hoy, hyl2, ty, hyd, hox, hx2, tx, hoz, hz2, tz, g1, g2]); repeat (refine And.intro (by omega) ?_))
    | ((with_reducible first | apply WL_nil | apply W_label | apply W_skip | apply W_exit | apply W_ret | apply popsD_done); try simp only [seqK, blockK, scopeK, ↓reduceIte, Nat.reduceEqDiff])
    | with_reducible exact popsD_stop
    | (with_reducible apply pguard_intro <;> (intro hc; (try simp only [hcb, reduceCtorEq, forall_const, ne_eq] at hc); first | (exfalso; omega) | (exfalso; exact hc trivial) | refine Ev_in ?_))
    | (with_reducible apply W_cond_k; intro _ _ ea eb; (simp only [condK, cob, opnd, constPV, Nat.reduceEqDiff, Nat.reduceLT, ↓reduceIte, hcb, reduceCtorEq, forall_const, ne_eq]); subst ea eb; first | (refine ⟨fun hc => ?_, fun hc => ?_⟩ <;> first | (exfalso; omega) | (exfalso; exact hc trivial) | skip) | skip)
    | (with_reducible apply hnx; clear hnx nx)
    | (with_reducible refine And.intro (by omega) ?_)
    | (with_reducible refine And.intro ?_ ?_)
    | (with_reducible refine pcall_k (d3) ?_; rintro _ _ ⟨rfl, rfl⟩ -; refine Ev_in ?_)
    | ((refine vl _ _ _ _ (by simp [look, hne2, hne]) ?_; refine Ev_in ?_))
    | (clear hnx nx; with_reducible apply hnx; clear hnx nx)
    | (clear hnx nx; clear hnx nx; with_reducible apply hnx; clear hnx nx)
    | (clear hnx nx; clear hnx nx; clear hnx nx; with_reducible apply hnx; clear hnx nx))
            all_goals first
              | exact rfl
              | (exfalso
                 omega)
              | (refine hlp2 _ (h - (l + 1)) _ (by omega) ?_ ⟨l + 1, z2, by omega, rfl, hway2.symm, rfl⟩
                 refine Wk_fr (by simp only [wkb, Nat.reduceEqDiff, Nat.reduceLT, ↓reduceIte]) ?_
                 exact ⟨by simp, by simp [names, hne2, hne]⟩)
        · obtain rfl : l = h := by omega
          have hq := q16 y p hyl hp
          rw [← hy] at hroot
          by_cases hyp : y = p
          · rw [if_pos hyp] at hroot
            rw [decide_eq_true hyp] at hq
            rw [hroot] at hfin
            repeat' (first
    | (with_reducible apply W_seq_k; intro nx hnx)
    | (with_reducible first | apply W_block | apply W_scope)
    | (with_reducible refine W_prune 55340232221128916767 ?_; simp only [prb, Nat.reducePow, Nat.reduceDiv, Nat.reduceMod, Nat.reduceBEq]; first | (with_reducible apply W_region_l) | with_reducible refine W_region_draw (id := 9) 1 (.op 0 true (.op 1 true (.op 2 true (.op 3 true (.op 4 true (.op 5 true (.op 6 true (.op 7 true (.op 8 true (.op 9 true (.op 10 true (.op 11 true (.op 12 true (.op 13 true (.op 14 true (.op 15 true (.done))))))))))))))))) (by kernel_rfl) ?_ | with_reducible refine W_region_draw (id := 18) 2 (.op 0 true (.op 1 true (.op 2 true (.op 4 true (.op 3 true (.op 5 false (.op 6 false (.done)))))))) (by kernel_rfl) ?_ | with_reducible refine W_region_draw (id := 19) 2 (.op 0 true (.op 1 true (.op 2 true (.op 3 true (.op 4 true (.op 5 false (.op 6 false (.done)))))))) (by kernel_rfl) ?_)
    | ((first | (with_reducible apply WL_op; intro nx hnx) | with_reducible refine Ev_out ?_ | (with_reducible apply popsD_op; intro nx hnx) | (with_reducible refine popsD_alt ?_ ?_; intro nx hnx) | (with_reducible refine pfresh_k hnm fun nm hnm => ?_; (try simp only [fmb] at hnm)) | (with_reducible refine pborn_mu hnm fun nm hnm => ?_; (try simp only [fmb] at hnm))); try (simp (maxSteps := 2000000) (disch := omega) only [evb, evd, pbuiltin, constPV, pnck, seqK, blockK, scopeK, pbin, pun, ppick, plen, piaddr, pindex, pfield, pslice, pbound, pconv, pelems, pextract, pmm, PV.mem?, PV.one, PV.cells, pageq, peqs, peq1, pmakes, pstore, pbytes, pmark, pusd, pust, psrc, pkey, pkeys, pnile, pcap, pgrow, List.set, Value.cells, ↓popG_eq, ↓pop.eq_1, ↓List.getElem?_map, ↓List.getElem?_cons_zero, ↓List.getElem?_cons_succ, Value.oneCell', Nat.reduceAdd, Nat.reduceMul, Nat.reduceSub, Nat.reduceLeDiff, Nat.reduceEqDiff, ↓reduceIte, ne_eq, reduceCtorEq, forall_const, exists_and_left, exists_eq_left', eq_self, Nat.reduceLT, Int.reduceLT, Int.reduceLE, Int.reduceToNat, Int.reduceAdd, Int.reduceSub, Int.reduceNeg, hnm, Tryd.tf0, Tryd.tf1, Tryd.tf2, Tryd.tf3, Tryd.tf4, Tryd.tf5, Tryd.tf9, Tryd.teq22, Tryd.tf23, Tryd.teq23, Tryd.tf25, Tryd.teq28, Tryd.tf29, Tryd.tf52, Tryd.tf67, Tryd.tf69, Tryd.teq82, Tryd.teq83, Tryd.teq89, Tryd.teq103, Tryd.teq106, Tryd.call10, Tryd.call16, Tryd.call21, Tryd.call36, Tryd.call38, Tryd.call40, hlh, hne2, hne, hoy, hyl2, ty, hl0, ho0, tp, hq]); repeat (refine And.intro (by omega) ?_))
    | ((with_reducible first | apply WL_nil | apply W_label | apply W_skip | apply W_exit | apply W_ret | apply popsD_done); try simp only [seqK, blockK, scopeK, ↓reduceIte, Nat.reduceEqDiff])
    | with_reducible exact popsD_stop
    | (with_reducible apply pguard_intro <;> (intro hc; (try simp only [hcb, reduceCtorEq, forall_const, ne_eq] at hc); first | (exfalso; omega) | (exfalso; exact hc trivial) | refine Ev_in ?_))
    | (with_reducible apply W_cond_k; intro _ _ ea eb; (simp only [condK, cob, opnd, constPV, Nat.reduceEqDiff, Nat.reduceLT, ↓reduceIte, hcb, reduceCtorEq, forall_const, ne_eq]); subst ea eb; first | (refine ⟨fun hc => ?_, fun hc => ?_⟩ <;> first | (exfalso; omega) | (exfalso; exact hc trivial) | skip) | skip)
    | (with_reducible apply hnx; clear hnx nx)
    | (with_reducible refine And.intro (by omega) ?_)
    | (with_reducible refine And.intro ?_ ?_)
    | (clear hnx nx; with_reducible apply hnx; clear hnx nx)
    | (clear hnx nx; clear hnx nx; with_reducible apply hnx; clear hnx nx)
    | (clear hnx nx; clear hnx nx; clear hnx nx; with_reducible apply hnx; clear hnx nx))
            all_goals first
              | exact rfl
              | (exfalso
                 omega)
              | (intro hh
                 exfalso
                 simp at hh
                 done)
              | (refine hfin _ _ (Fin_ret2 rfl rfl (Sub_nil _) ?_); simp only [List.getD_cons_zero, List.getD_cons_succ, fr_getD_cons, fr_getD_nil, Nat.reduceEqDiff, Nat.reduceLT, ↓reduceIte]; first | trivial | exact ⟨rfl, by trivial⟩ | (simp; done) | (simp; omega))
          · rw [if_neg hyp] at hroot
            rw [decide_eq_false hyp] at hq
            rw [hroot] at hfin
            repeat' (first
    | (with_reducible apply W_seq_k; intro nx hnx)
    | (with_reducible first | apply W_block | apply W_scope)
    | (with_reducible refine W_prune 55340232221128916767 ?_; simp only [prb, Nat.reducePow, Nat.reduceDiv, Nat.reduceMod, Nat.reduceBEq]; first | (with_reducible apply W_region_l) | with_reducible refine W_region_draw (id := 9) 1 (.op 0 true (.op 1 true (.op 2 true (.op 3 true (.op 4 true (.op 5 true (.op 6 true (.op 7 true (.op 8 true (.op 9 true (.op 10 true (.op 11 true (.op 12 true (.op 13 true (.op 14 true (.op 15 true (.done))))))))))))))))) (by kernel_rfl) ?_ | with_reducible refine W_region_draw (id := 18) 2 (.op 0 true (.op 1 true (.op 2 true (.op 4 true (.op 3 true (.op 5 false (.op 6 false (.done)))))))) (by kernel_rfl) ?_ | with_reducible refine W_region_draw (id := 19) 2 (.op 0 true (.op 1 true (.op 2 true (.op 3 true (.op 4 true (.op 5 false (.op 6 false (.done)))))))) (by kernel_rfl) ?_)
    | ((first | (with_reducible apply WL_op; intro nx hnx) | with_reducible refine Ev_out ?_ | (with_reducible apply popsD_op; intro nx hnx) | (with_reducible refine popsD_alt ?_ ?_; intro nx hnx) | (with_reducible refine pfresh_k hnm fun nm hnm => ?_; (try simp only [fmb] at hnm)) | (with_reducible refine pborn_mu hnm fun nm hnm => ?_; (try simp only [fmb] at hnm))); try (simp (maxSteps := 2000000) (disch := omega) only [evb, evd, pbuiltin, constPV, pnck, seqK, blockK, scopeK, pbin, pun, ppick, plen, piaddr, pindex, pfield, pslice, pbound, pconv, pelems, pextract, pmm, PV.mem?, PV.one, PV.cells, pageq, peqs, peq1, pmakes, pstore, pbytes, pmark, pusd, pust, psrc, pkey, pkeys, pnile, pcap, pgrow, List.set, Value.cells, ↓popG_eq, ↓pop.eq_1, ↓List.getElem?_map, ↓List.getElem?_cons_zero, ↓List.getElem?_cons_succ, Value.oneCell', Nat.reduceAdd, Nat.reduceMul, Nat.reduceSub, Nat.reduceLeDiff, Nat.reduceEqDiff, ↓reduceIte, ne_eq, reduceCtorEq, forall_const, exists_and_left, exists_eq_left', eq_self, Nat.reduceLT, Int.reduceLT, Int.reduceLE, Int.reduceToNat, Int.reduceAdd, Int.reduceSub, Int.reduceNeg, hnm, Tryd.tf0, Tryd.tf1, Tryd.tf2, Tryd.tf3, Tryd.tf4, Tryd.tf5, Tryd.tf9, Tryd.teq22, Tryd.tf23, Tryd.teq23, Tryd.tf25, Tryd.teq28, Tryd.tf29, Tryd.tf52, Tryd.tf67, Tryd.tf69, Tryd.teq82, Tryd.teq83, Tryd.teq89, Tryd.teq103, Tryd.teq106, Tryd.call10, Tryd.call16, Tryd.call21, Tryd.call36, Tryd.call38, Tryd.call40, hlh, hne2, hne, hoy, hyl2, ty, hl0, ho0, tp, hq]); repeat (refine And.intro (by omega) ?_))
    | ((with_reducible first | apply WL_nil | apply W_label | apply W_skip | apply W_exit | apply W_ret | apply popsD_done); try simp only [seqK, blockK, scopeK, ↓reduceIte, Nat.reduceEqDiff])
    | with_reducible exact popsD_stop
    | (with_reducible apply pguard_intro <;> (intro hc; (try simp only [hcb, reduceCtorEq, forall_const, ne_eq] at hc); first | (exfalso; omega) | (exfalso; exact hc trivial) | refine Ev_in ?_))
    | (with_reducible apply W_cond_k; intro _ _ ea eb; (simp only [condK, cob, opnd, constPV, Nat.reduceEqDiff, Nat.reduceLT, ↓reduceIte, hcb, reduceCtorEq, forall_const, ne_eq]); subst ea eb; first | (refine ⟨fun hc => ?_, fun hc => ?_⟩ <;> first | (exfalso; omega) | (exfalso; exact hc trivial) | skip) | skip)
    | (with_reducible apply hnx; clear hnx nx)
    | (with_reducible refine And.intro (by omega) ?_)
    | (with_reducible refine And.intro ?_ ?_)
    | (clear hnx nx; with_reducible apply hnx; clear hnx nx)
    | (clear hnx nx; clear hnx nx; with_reducible apply hnx; clear hnx nx)
    | (clear hnx nx; clear hnx nx; clear hnx nx; with_reducible apply hnx; clear hnx nx))
            all_goals first
              | exact rfl
              | (exfalso
                 omega)
              | (intro hh
                 exfalso
                 simp at hh
                 done)
              | (refine hfin _ _ (Fin_ret2 rfl rfl (Sub_nil _) ?_); simp only [List.getD_cons_zero, List.getD_cons_succ, fr_getD_cons, fr_getD_nil, Nat.reduceEqDiff, Nat.reduceLT, ↓reduceIte]; first | trivial | exact ⟨rfl, by trivial⟩ | (simp; done) | (simp; omega))
    · have hv2 : v = (0, e) := by rw [hv, verF, if_neg (by simpa using hf), hg, if_pos he]
      rw [hv2] at hfin
      rcases gI_err hg with h0 | ⟨rfl, rfl, rfl | rfl⟩
      · exact absurd h0 he
      all_goals
        repeat' (first
    | (with_reducible apply W_seq_k; intro nx hnx)
    | (with_reducible first | apply W_block | apply W_scope)
    | (with_reducible refine W_prune 55340232221128916767 ?_; simp only [prb, Nat.reducePow, Nat.reduceDiv, Nat.reduceMod, Nat.reduceBEq]; first | (with_reducible apply W_region_l) | with_reducible refine W_region_draw (id := 9) 1 (.op 0 true (.op 1 true (.op 2 true (.op 3 true (.op 4 true (.op 5 true (.op 6 true (.op 7 true (.op 8 true (.op 9 true (.op 10 true (.op 11 true (.op 12 true (.op 13 true (.op 14 true (.op 15 true (.done))))))))))))))))) (by kernel_rfl) ?_ | with_reducible refine W_region_draw (id := 18) 2 (.op 0 true (.op 1 true (.op 2 true (.op 4 true (.op 3 true (.op 5 false (.op 6 false (.done)))))))) (by kernel_rfl) ?_ | with_reducible refine W_region_draw (id := 19) 2 (.op 0 true (.op 1 true (.op 2 true (.op 3 true (.op 4 true (.op 5 false (.op 6 false (.done)))))))) (by kernel_rfl) ?_)
    | ((first | (with_reducible apply WL_op; intro nx hnx) | with_reducible refine Ev_out ?_ | (with_reducible apply popsD_op; intro nx hnx) | (with_reducible refine popsD_alt ?_ ?_; intro nx hnx) | (with_reducible refine pfresh_k hnm fun nm hnm => ?_; (try simp only [fmb] at hnm)) | (with_reducible refine pborn_mu hnm fun nm hnm => ?_; (try simp only [fmb] at hnm))); try (simp (maxSteps := 2000000) (disch := omega) only [evb, evd, pbuiltin, constPV, pnck, seqK, blockK, scopeK, pbin, pun, ppick, plen, piaddr, pindex, pfield, pslice, pbound, pconv, pelems, pextract, pmm, PV.mem?, PV.one, PV.cells, pageq, peqs, peq1, pmakes, pstore, pbytes, pmark, pusd, pust, psrc, pkey, pkeys, pnile, pcap, pgrow, List.set, Value.cells, ↓popG_eq, ↓pop.eq_1, ↓List.getElem?_map, ↓List.getElem?_cons_zero, ↓List.getElem?_cons_succ, Value.oneCell', Nat.reduceAdd, Nat.reduceMul, Nat.reduceSub, Nat.reduceLeDiff, Nat.reduceEqDiff, ↓reduceIte, ne_eq, reduceCtorEq, forall_const, exists_and_left, exists_eq_left', eq_self, Nat.reduceLT, Int.reduceLT, Int.reduceLE, Int.reduceToNat, Int.reduceAdd, Int.reduceSub, Int.reduceNeg, hnm, Tryd.tf0, Tryd.tf1, Tryd.tf2, Tryd.tf3, Tryd.tf4, Tryd.tf5, Tryd.tf9, Tryd.teq22, Tryd.tf23, Tryd.teq23, Tryd.tf25, Tryd.teq28, Tryd.tf29, Tryd.tf52, Tryd.tf67, Tryd.tf69, Tryd.teq82, Tryd.teq83, Tryd.teq89, Tryd.teq103, Tryd.teq106, Tryd.call10, Tryd.call16, Tryd.call21, Tryd.call36, Tryd.call38, Tryd.call40, hl0, ho0, f1, f2]); repeat (refine And.intro (by omega) ?_))
    | ((with_reducible first | apply WL_nil | apply W_label | apply W_skip | apply W_exit | apply W_ret | apply popsD_done); try simp only [seqK, blockK, scopeK, ↓reduceIte, Nat.reduceEqDiff])
    | with_reducible exact popsD_stop
    | (with_reducible apply pguard_intro <;> (intro hc; (try simp only [hcb, reduceCtorEq, forall_const, ne_eq] at hc); first | (exfalso; omega) | (exfalso; exact hc trivial) | refine Ev_in ?_))
    | (with_reducible apply W_cond_k; intro _ _ ea eb; (simp only [condK, cob, opnd, constPV, Nat.reduceEqDiff, Nat.reduceLT, ↓reduceIte, hcb, reduceCtorEq, forall_const, ne_eq]); subst ea eb; first | (refine ⟨fun hc => ?_, fun hc => ?_⟩ <;> first | (exfalso; omega) | (exfalso; exact hc trivial) | skip) | skip)
    | (with_reducible apply hnx; clear hnx nx)
    | (with_reducible refine And.intro (by omega) ?_)
    | (with_reducible refine And.intro ?_ ?_)
    | (with_reducible refine pcall_k (c0) ?_; rintro _ _ ⟨rfl, rfl⟩ -; refine Ev_in ?_)
    | (with_reducible refine pcall_k (c1) ?_; rintro _ _ ⟨rfl, rfl⟩ -; refine Ev_in ?_)
    | (clear hnx nx; with_reducible apply hnx; clear hnx nx)
    | (clear hnx nx; clear hnx nx; with_reducible apply hnx; clear hnx nx)
    | (clear hnx nx; clear hnx nx; clear hnx nx; with_reducible apply hnx; clear hnx nx))
        all_goals first
          | exact rfl
          | (exfalso
             omega)
          | (intro hh
             exfalso
             simp at hh
             omega)
          | (refine hfin _ _ (Fin_ret2 rfl rfl (Sub_nil _) ?_); simp only [List.getD_cons_zero, List.getD_cons_succ, fr_getD_cons, fr_getD_nil, Nat.reduceEqDiff, Nat.reduceLT, ↓reduceIte]; first | trivial | exact ⟨rfl, by trivial⟩ | (simp; done) | (simp; omega))
  · have hv2 : v = (0, 1) := by rw [hv, verF, if_pos hf]
    rw [hv2] at hfin
    by_cases f1 : n < 0
    · repeat' (first
    | (with_reducible apply W_seq_k; intro nx hnx)
    | (with_reducible first | apply W_block | apply W_scope)
    | (with_reducible refine W_prune 55340232221128916767 ?_; simp only [prb, Nat.reducePow, Nat.reduceDiv, Nat.reduceMod, Nat.reduceBEq]; first | (with_reducible apply W_region_l) | with_reducible refine W_region_draw (id := 9) 1 (.op 0 true (.op 1 true (.op 2 true (.op 3 true (.op 4 true (.op 5 true (.op 6 true (.op 7 true (.op 8 true (.op 9 true (.op 10 true (.op 11 true (.op 12 true (.op 13 true (.op 14 true (.op 15 true (.done))))))))))))))))) (by kernel_rfl) ?_ | with_reducible refine W_region_draw (id := 18) 2 (.op 0 true (.op 1 true (.op 2 true (.op 4 true (.op 3 true (.op 5 false (.op 6 false (.done)))))))) (by kernel_rfl) ?_ | with_reducible refine W_region_draw (id := 19) 2 (.op 0 true (.op 1 true (.op 2 true (.op 3 true (.op 4 true (.op 5 false (.op 6 false (.done)))))))) (by kernel_rfl) ?_)
    | ((first | (with_reducible apply WL_op; intro nx hnx) | with_reducible refine Ev_out ?_ | (with_reducible apply popsD_op; intro nx hnx) | (with_reducible refine popsD_alt ?_ ?_; intro nx hnx) | (with_reducible refine pfresh_k hnm fun nm hnm => ?_; (try simp only [fmb] at hnm)) | (with_reducible refine pborn_mu hnm fun nm hnm => ?_; (try simp only [fmb] at hnm))); try (simp (maxSteps := 2000000) (disch := omega) only [evb, evd, pbuiltin, constPV, pnck, seqK, blockK, scopeK, pbin, pun, ppick, plen, piaddr, pindex, pfield, pslice, pbound, pconv, pelems, pextract, pmm, PV.mem?, PV.one, PV.cells, pageq, peqs, peq1, pmakes, pstore, pbytes, pmark, pusd, pust, psrc, pkey, pkeys, pnile, pcap, pgrow, List.set, Value.cells, ↓popG_eq, ↓pop.eq_1, ↓List.getElem?_map, ↓List.getElem?_cons_zero, ↓List.getElem?_cons_succ, Value.oneCell', Nat.reduceAdd, Nat.reduceMul, Nat.reduceSub, Nat.reduceLeDiff, Nat.reduceEqDiff, ↓reduceIte, ne_eq, reduceCtorEq, forall_const, exists_and_left, exists_eq_left', eq_self, Nat.reduceLT, Int.reduceLT, Int.reduceLE, Int.reduceToNat, Int.reduceAdd, Int.reduceSub, Int.reduceNeg, hnm, Tryd.tf0, Tryd.tf1, Tryd.tf2, Tryd.tf3, Tryd.tf4, Tryd.tf5, Tryd.tf9, Tryd.teq22, Tryd.tf23, Tryd.teq23, Tryd.tf25, Tryd.teq28, Tryd.tf29, Tryd.tf52, Tryd.tf67, Tryd.tf69, Tryd.teq82, Tryd.teq83, Tryd.teq89, Tryd.teq103, Tryd.teq106, Tryd.call10, Tryd.call16, Tryd.call21, Tryd.call36, Tryd.call38, Tryd.call40, hl0, ho0, f1]); repeat (refine And.intro (by omega) ?_))
    | ((with_reducible first | apply WL_nil | apply W_label | apply W_skip | apply W_exit | apply W_ret | apply popsD_done); try simp only [seqK, blockK, scopeK, ↓reduceIte, Nat.reduceEqDiff])
    | with_reducible exact popsD_stop
    | (with_reducible apply pguard_intro <;> (intro hc; (try simp only [hcb, reduceCtorEq, forall_const, ne_eq] at hc); first | (exfalso; omega) | (exfalso; exact hc trivial) | refine Ev_in ?_))
    | (with_reducible apply W_cond_k; intro _ _ ea eb; (simp only [condK, cob, opnd, constPV, Nat.reduceEqDiff, Nat.reduceLT, ↓reduceIte, hcb, reduceCtorEq, forall_const, ne_eq]); subst ea eb; first | (refine ⟨fun hc => ?_, fun hc => ?_⟩ <;> first | (exfalso; omega) | (exfalso; exact hc trivial) | skip) | skip)
    | (with_reducible apply hnx; clear hnx nx)
    | (with_reducible refine And.intro (by omega) ?_)
    | (with_reducible refine And.intro ?_ ?_)
    | (with_reducible refine pcall_k (c0) ?_; rintro _ _ ⟨rfl, rfl⟩ -; refine Ev_in ?_)
    | (clear hnx nx; with_reducible apply hnx; clear hnx nx)
    | (clear hnx nx; clear hnx nx; with_reducible apply hnx; clear hnx nx)
    | (clear hnx nx; clear hnx nx; clear hnx nx; with_reducible apply hnx; clear hnx nx))
      all_goals first
        | exact rfl
        | (exfalso
           omega)
        | (intro hh
           exfalso
           simp at hh
           omega)
        | (refine hfin _ _ (Fin_ret2 rfl rfl (Sub_nil _) ?_); simp only [List.getD_cons_zero, List.getD_cons_succ, fr_getD_cons, fr_getD_nil, Nat.reduceEqDiff, Nat.reduceLT, ↓reduceIte]; first | trivial | exact ⟨rfl, by trivial⟩ | (simp; done) | (simp; omega))
    · have f2 : 6 < n := by omega
      repeat' (first
    | (with_reducible apply W_seq_k; intro nx hnx)
    | (with_reducible first | apply W_block | apply W_scope)
    | (with_reducible refine W_prune 55340232221128916767 ?_; simp only [prb, Nat.reducePow, Nat.reduceDiv, Nat.reduceMod, Nat.reduceBEq]; first | (with_reducible apply W_region_l) | with_reducible refine W_region_draw (id := 9) 1 (.op 0 true (.op 1 true (.op 2 true (.op 3 true (.op 4 true (.op 5 true (.op 6 true (.op 7 true (.op 8 true (.op 9 true (.op 10 true (.op 11 true (.op 12 true (.op 13 true (.op 14 true (.op 15 true (.done))))))))))))))))) (by kernel_rfl) ?_ | with_reducible refine W_region_draw (id := 18) 2 (.op 0 true (.op 1 true (.op 2 true (.op 4 true (.op 3 true (.op 5 false (.op 6 false (.done)))))))) (by kernel_rfl) ?_ | with_reducible refine W_region_draw (id := 19) 2 (.op 0 true (.op 1 true (.op 2 true (.op 3 true (.op 4 true (.op 5 false (.op 6 false (.done)))))))) (by kernel_rfl) ?_)
    | ((first | (with_reducible apply WL_op; intro nx hnx) | with_reducible refine Ev_out ?_ | (with_reducible apply popsD_op; intro nx hnx) | (with_reducible refine popsD_alt ?_ ?_; intro nx hnx) | (with_reducible refine pfresh_k hnm fun nm hnm => ?_; (try simp only [fmb] at hnm)) | (with_reducible refine pborn_mu hnm fun nm hnm => ?_; (try simp only [fmb] at hnm))); try (simp (maxSteps := 2000000) (disch := omega) only [evb, evd, pbuiltin, constPV, pnck, seqK, blockK, scopeK, pbin, pun, ppick, plen, piaddr, pindex, pfield, pslice, pbound, pconv, pelems, pextract, pmm, PV.mem?, PV.one, PV.cells, pageq, peqs, peq1, pmakes, pstore, pbytes, pmark, pusd, pust, psrc, pkey, pkeys, pnile, pcap, pgrow, List.set, Value.cells, ↓popG_eq, ↓pop.eq_1, ↓List.getElem?_map, ↓List.getElem?_cons_zero, ↓List.getElem?_cons_succ, Value.oneCell', Nat.reduceAdd, Nat.reduceMul, Nat.reduceSub, Nat.reduceLeDiff, Nat.reduceEqDiff, ↓reduceIte, ne_eq, reduceCtorEq, forall_const, exists_and_left, exists_eq_left', eq_self, Nat.reduceLT, Int.reduceLT, Int.reduceLE, Int.reduceToNat, Int.reduceAdd, Int.reduceSub, Int.reduceNeg, hnm, Tryd.tf0, Tryd.tf1, Tryd.tf2, Tryd.tf3, Tryd.tf4, Tryd.tf5, Tryd.tf9, Tryd.teq22, Tryd.tf23, Tryd.teq23, Tryd.tf25, Tryd.teq28, Tryd.tf29, Tryd.tf52, Tryd.tf67, Tryd.tf69, Tryd.teq82, Tryd.teq83, Tryd.teq89, Tryd.teq103, Tryd.teq106, Tryd.call10, Tryd.call16, Tryd.call21, Tryd.call36, Tryd.call38, Tryd.call40, hl0, ho0, f1, f2]); repeat (refine And.intro (by omega) ?_))
    | ((with_reducible first | apply WL_nil | apply W_label | apply W_skip | apply W_exit | apply W_ret | apply popsD_done); try simp only [seqK, blockK, scopeK, ↓reduceIte, Nat.reduceEqDiff])
    | with_reducible exact popsD_stop
    | (with_reducible apply pguard_intro <;> (intro hc; (try simp only [hcb, reduceCtorEq, forall_const, ne_eq] at hc); first | (exfalso; omega) | (exfalso; exact hc trivial) | refine Ev_in ?_))
    | (with_reducible apply W_cond_k; intro _ _ ea eb; (simp only [condK, cob, opnd, constPV, Nat.reduceEqDiff, Nat.reduceLT, ↓reduceIte, hcb, reduceCtorEq, forall_const, ne_eq]); subst ea eb; first | (refine ⟨fun hc => ?_, fun hc => ?_⟩ <;> first | (exfalso; omega) | (exfalso; exact hc trivial) | skip) | skip)
    | (with_reducible apply hnx; clear hnx nx)
    | (with_reducible refine And.intro (by omega) ?_)
    | (with_reducible refine And.intro ?_ ?_)
    | (with_reducible refine pcall_k (c0) ?_; rintro _ _ ⟨rfl, rfl⟩ -; refine Ev_in ?_)
    | (clear hnx nx; with_reducible apply hnx; clear hnx nx)
    | (clear hnx nx; clear hnx nx; with_reducible apply hnx; clear hnx nx)
    | (clear hnx nx; clear hnx nx; clear hnx nx; with_reducible apply hnx; clear hnx nx))
      all_goals first
        | exact rfl
        | (exfalso
           omega)
        | (intro hh
           exfalso
           simp at hh
           omega)
        | (refine hfin _ _ (Fin_ret2 rfl rfl (Sub_nil _) ?_); simp only [List.getD_cons_zero, List.getD_cons_succ, fr_getD_cons, fr_getD_nil, Nat.reduceEqDiff, Nat.reduceLT, ↓reduceIte]; first | trivial | exact ⟨rfl, by trivial⟩ | (simp; done) | (simp; omega))
end Go.PM
