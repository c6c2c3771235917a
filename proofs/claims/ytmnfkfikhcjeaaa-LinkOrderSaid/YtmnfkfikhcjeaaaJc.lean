/- Joined texts (Ve Vf Vg Vh Vi Nb Nc Vk Vl Vm Vo Nd): the machine, the contracts, the laws. Conditions: none but those that each names. -/
import Derived.Test.YtmnfkfikhcjeaaaJb
import Derived.Laws.Bits64b
set_option linter.unusedSimpArgs false
set_option linter.unusedVariables false
namespace Go.PM
open Go.Proofs
attribute [local irreducible] W PCalls pcall pcallI WL
/-- The number of digits that a first byte tells of. -/
def kOf (h : UInt8) : Nat := if h.toNat < 128 then 127 - h.toNat else h.toNat - 128
def flD (h d : UInt8) : UInt8 := if h.toNat < 128 then 255 - d else d
def valB (ds : List UInt8) : Nat := ds.foldl (fun m d => 256 * m + d.toNat) 0
def flI (h : UInt8) : Int := if h.toNat < 128 then 255 else 0
/-- What is decoded: the integer, the number of bytes, the error. -/
def gI : List UInt8 → Int × Nat × Int
  | [] => (0, 0, 3)
  | h :: t =>
    if 8 < kOf h then (0, 0, 2)
    else if t.length < kOf h then (0, 0, 3)
    else if ((t.take (kOf h)).map (flD h)).head? = some 0 ∨ 9223372036854775808 ≤ valB ((t.take (kOf h)).map (flD h)) then (0, 0, 2)
    else (if h.toNat < 128 then -1 - (valB ((t.take (kOf h)).map (flD h)) : Int) else valB ((t.take (kOf h)).map (flD h)), kOf h + 1, 0)
@[reducible] def t3 (x : Int × Nat × Int) : PV := .tuple [pint .i64 x.1, pint .i64 x.2.1, pint .i64 x.2.2]
theorem xor255u (b : UInt8) : bits .xor .u8 ((b.toNat : Nat) : Int) 255 = (((255 - b).toNat : Nat) : Int) := by
  have h := b.toNat_lt
  rw [xor255 ⟨b.toNat, h⟩, UInt8.toNat_sub_of_le _ _ (UInt8.le_iff_toNat_le.2 (by simp; omega))]
  rfl
theorem xor000u (b : UInt8) : bits .xor .u8 ((b.toNat : Nat) : Int) 0 = ((b.toNat : Nat) : Int) := xor000 ⟨b.toNat, b.toNat_lt⟩
theorem sub255 (b : UInt8) : (255 - b).toNat = 255 - b.toNat := by
  have h := b.toNat_lt
  exact UInt8.toNat_sub_of_le _ _ (UInt8.le_iff_toNat_le.2 (by simp; omega))
theorem or_shift (m d : Nat) (hm : m < 2 ^ 56) (hd : d < 256) : bits .or .u64 (IntKind.u64.wrap (((m : Nat) : Int) * 2 ^ min 8 IntKind.u64.bits)) (IntKind.u64.wrap (d : Int)) = ((256 * m + d : Nat) : Int) := by
  have e1 : IntKind.u64.wrap (((m : Nat) : Int) * 2 ^ min 8 IntKind.u64.bits) = ((2 ^ 8 * m : Nat) : Int) := by
    simp [IntKind.wrap, IntKind.bits, IntKind.signed]
    omega
  have e2 : IntKind.u64.wrap (d : Int) = (d : Int) := by
    simp [IntKind.wrap, IntKind.bits, IntKind.signed]
    omega
  rw [e1, e2, bits_or_u64_nat _ _ (by omega) (by omega), ← Nat.two_pow_add_eq_or_of_lt (by omega)]
theorem wrap_not (m : Nat) (h : m < 9223372036854775808) : IntKind.i64.wrap (bits .xor .u64 (if IntKind.u64.signed = true then -1 else IntKind.u64.max) (m : Int)) = -1 - (m : Int) := by
  have e1 : (if IntKind.u64.signed = true then (-1 : Int) else IntKind.u64.max) = ((2 ^ 64 - 1 : Nat) : Int) := by decide
  rw [e1, bits_xor_u64_nat _ _ (by decide) (by omega), Go.Lib.xor_ones64 _ (by omega)]
  simp [IntKind.wrap, IntKind.bits, IntKind.signed]
  omega
theorem flx (h d : UInt8) : bits .xor .u8 ((d.toNat : Nat) : Int) (flI h) = (((flD h d).toNat : Nat) : Int) := by
  unfold flI flD
  split
  · exact xor255u d
  · exact xor000u d
theorem valB_snoc (l : List UInt8) (d : UInt8) : valB (l ++ [d]) = 256 * valB l + d.toNat := by simp [valB]
theorem valR_lt : ∀ l : List UInt8, valB l.reverse < 256 ^ l.length
  | [] => by simp [valB]
  | d :: l => by
    have := d.toNat_lt
    have := valR_lt l
    rw [List.reverse_cons, valB_snoc, List.length_cons, Nat.pow_succ]
    omega
theorem valB_lt (l : List UInt8) : valB l < 256 ^ l.length := by
  have := valR_lt l.reverse
  rwa [List.reverse_reverse, List.length_reverse] at this
theorem gI_form {h : UInt8} {t : List UInt8} (hk : 8 < kOf h) : gI (h :: t) = (0, 0, 2) := by rw [gI, if_pos hk]
theorem gI_more {h : UInt8} {t : List UInt8} (hk : ¬ 8 < kOf h) (ht : t.length < kOf h) : gI (h :: t) = (0, 0, 3) := by rw [gI, if_neg hk, if_pos ht]
theorem gI_bad {h : UInt8} {t : List UInt8} (hk : ¬ 8 < kOf h) (ht : ¬ t.length < kOf h) (hb : ((t.take (kOf h)).map (flD h)).head? = some 0 ∨ 9223372036854775808 ≤ valB ((t.take (kOf h)).map (flD h))) : gI (h :: t) = (0, 0, 2) := by rw [gI, if_neg hk, if_neg ht, if_pos hb]
theorem gI_good {h : UInt8} {t : List UInt8} (hk : ¬ 8 < kOf h) (ht : ¬ t.length < kOf h) (hb : ¬ (((t.take (kOf h)).map (flD h)).head? = some 0 ∨ 9223372036854775808 ≤ valB ((t.take (kOf h)).map (flD h)))) :
    gI (h :: t) = (if h.toNat < 128 then -1 - (valB ((t.take (kOf h)).map (flD h)) : Int) else valB ((t.take (kOf h)).map (flD h)), kOf h + 1, 0) := by rw [gI, if_neg hk, if_neg ht, if_neg hb]
set_option maxRecDepth 100000 in
set_option maxHeartbeats 8000000 in
theorem getInt_c (G : Globs) (b : List UInt8) (hb : (b.length : Int) ≤ 4611686018427387904) :
    PCalls Try.prog G 56 [.list 1 (b.map pbyte)] [] (fun res H => res = t3 (gI b) ∧ H = []) := by
  cases b with
  | nil =>
    (refine PCalls_f Try.func56 rfl Try.ntmps56 Try.results56 (by simp) fun fin hfin => ?_; have hnm : True := trivial; simp (maxSteps := 2000000) (disch := omega) only [evb, evd, pbuiltin, constPV, pnck, seqK, blockK, scopeK, pbin, pun, ppick, plen, piaddr, pindex, pfield, pslice, pbound, pconv, pelems, pextract, pmm, PV.mem?, PV.one, PV.cells, pageq, peqs, peq1, pmakes, pstore, pbytes, pmark, psrc, pkey, pnile, pcap, pgrow, List.set, Value.cells, ↓popG_eq, ↓pop.eq_1, ↓List.getElem?_map, ↓List.getElem?_cons_zero, ↓List.getElem?_cons_succ, Value.oneCell', Nat.reduceAdd, Nat.reduceMul, Nat.reduceSub, Nat.reduceLeDiff, Nat.reduceEqDiff, ↓reduceIte, ne_eq, reduceCtorEq, forall_const, exists_and_left, exists_eq_left', eq_self, Nat.reduceLT, Int.reduceLT, Int.reduceLE, Int.reduceToNat, Int.reduceAdd, Int.reduceSub, Int.reduceNeg, hnm, Try.tf0, Try.tf3, Try.tf4, Try.tf5, Try.tf22, Try.tf33, Try.tf34, Try.teq79, Try.tf93])
    repeat' (first
    | (with_reducible apply W_seq_k; intro nx hnx)
    | (with_reducible first | apply W_block | apply W_scope)
    | (with_reducible refine W_prune 492581209244413 ?_; simp only [prb, Nat.reducePow, Nat.reduceDiv, Nat.reduceMod, Nat.reduceBEq]; with_reducible apply W_region_l)
    | ((first | (with_reducible apply WL_op; intro nx hnx) | with_reducible refine Ev_out ?_ | (with_reducible refine pfresh_k hnm fun nm hnm => ?_; (try simp only [fmb] at hnm)) | (with_reducible refine pborn_mu hnm fun nm hnm => ?_; (try simp only [fmb] at hnm))); try (simp (maxSteps := 2000000) (disch := omega) only [evb, evd, pbuiltin, constPV, pnck, seqK, blockK, scopeK, pbin, pun, ppick, plen, piaddr, pindex, pfield, pslice, pbound, pconv, pelems, pextract, pmm, PV.mem?, PV.one, PV.cells, pageq, peqs, peq1, pmakes, pstore, pbytes, pmark, psrc, pkey, pnile, pcap, pgrow, List.set, Value.cells, ↓popG_eq, ↓pop.eq_1, ↓List.getElem?_map, ↓List.getElem?_cons_zero, ↓List.getElem?_cons_succ, Value.oneCell', Nat.reduceAdd, Nat.reduceMul, Nat.reduceSub, Nat.reduceLeDiff, Nat.reduceEqDiff, ↓reduceIte, ne_eq, reduceCtorEq, forall_const, exists_and_left, exists_eq_left', eq_self, Nat.reduceLT, Int.reduceLT, Int.reduceLE, Int.reduceToNat, Int.reduceAdd, Int.reduceSub, Int.reduceNeg, hnm, Try.tf0, Try.tf3, Try.tf4, Try.tf5, Try.tf22, Try.tf33, Try.tf34, Try.teq79, Try.tf93]); repeat (refine And.intro (by omega) ?_))
    | ((with_reducible first | apply WL_nil | apply W_label | apply W_skip | apply W_exit | apply W_ret); try simp only [seqK, blockK, scopeK, ↓reduceIte, Nat.reduceEqDiff])
    | (with_reducible apply pguard_intro <;> (intro hc; (try simp only [hcb, reduceCtorEq, forall_const, ne_eq] at hc); first | (exfalso; omega) | (exfalso; exact hc trivial) | refine Ev_in ?_))
    | (with_reducible apply W_cond_k; intro _ _ ea eb; (simp only [condK, cob, opnd, constPV, Nat.reduceEqDiff, Nat.reduceLT, ↓reduceIte, hcb, reduceCtorEq, forall_const, ne_eq]); subst ea eb; first | (refine ⟨fun hc => ?_, fun hc => ?_⟩ <;> first | (exfalso; omega) | (exfalso; exact hc trivial) | skip) | skip)
    | (with_reducible apply hnx; clear hnx nx)
    | (with_reducible refine And.intro (by omega) ?_)
    | (with_reducible refine And.intro ?_ ?_)
    | (clear hnx nx; with_reducible apply hnx; clear hnx nx)
    | (clear hnx nx; clear hnx nx; with_reducible apply hnx; clear hnx nx)
    | (clear hnx nx; clear hnx nx; clear hnx nx; with_reducible apply hnx; clear hnx nx))
    refine hfin _ _ (Fin_ret3 rfl rfl rfl (Sub_nil _) ?_); simp only [List.getD_cons_zero, List.getD_cons_succ, fr_getD_cons, fr_getD_nil, Nat.reduceEqDiff, Nat.reduceLT, ↓reduceIte]
    simp [gI]
  | cons h t =>
    have hh := h.toNat_lt
    rw [List.length_cons] at hb
    have hk1 : h.toNat < 128 → ((255 - h.toNat : Nat) : Int) - 128 = (kOf h : Int) := fun h1 => by
      unfold kOf
      rw [if_pos h1]
      omega
    have hk2 : ¬ h.toNat < 128 → (h.toNat : Int) - 128 = (kOf h : Int) := fun h1 => by
      unfold kOf
      rw [if_neg h1]
      omega
    have hk3 : h.toNat < 128 → kOf h ≤ 127 := fun h1 => by omega
    obtain ⟨k, hk⟩ : ∃ k, k = kOf h := ⟨_, rfl⟩
    rw [← hk] at hk1 hk2
    have hkb : k ≤ 128 := by
      rcases Nat.lt_or_ge h.toNat 128 with h1 | h1
      · have := hk1 h1
        omega
      · have := hk2 (by omega)
        omega
    (refine PCalls_f Try.func56 rfl Try.ntmps56 Try.results56 (by simp) fun fin hfin => ?_; have hnm : True := trivial; simp (maxSteps := 2000000) (disch := omega) only [evb, evd, pbuiltin, constPV, pnck, seqK, blockK, scopeK, pbin, pun, ppick, plen, piaddr, pindex, pfield, pslice, pbound, pconv, pelems, pextract, pmm, PV.mem?, PV.one, PV.cells, pageq, peqs, peq1, pmakes, pstore, pbytes, pmark, psrc, pkey, pnile, pcap, pgrow, List.set, Value.cells, ↓popG_eq, ↓pop.eq_1, ↓List.getElem?_map, ↓List.getElem?_cons_zero, ↓List.getElem?_cons_succ, Value.oneCell', Nat.reduceAdd, Nat.reduceMul, Nat.reduceSub, Nat.reduceLeDiff, Nat.reduceEqDiff, ↓reduceIte, ne_eq, reduceCtorEq, forall_const, exists_and_left, exists_eq_left', eq_self, Nat.reduceLT, Int.reduceLT, Int.reduceLE, Int.reduceToNat, Int.reduceAdd, Int.reduceSub, Int.reduceNeg, hnm, Try.tf0, Try.tf3, Try.tf4, Try.tf5, Try.tf22, Try.tf33, Try.tf34, Try.teq79, Try.tf93])
    repeat' (first
    | (with_reducible apply W_seq_k; intro nx hnx)
    | (with_reducible first | apply W_block | apply W_scope)
    | (with_reducible refine W_prune 492581209244413 ?_; simp only [prb, Nat.reducePow, Nat.reduceDiv, Nat.reduceMod, Nat.reduceBEq]; with_reducible apply W_region_l)
    | ((first | (with_reducible apply WL_op; intro nx hnx) | with_reducible refine Ev_out ?_ | (with_reducible refine pfresh_k hnm fun nm hnm => ?_; (try simp only [fmb] at hnm)) | (with_reducible refine pborn_mu hnm fun nm hnm => ?_; (try simp only [fmb] at hnm))); try (simp (maxSteps := 2000000) (disch := omega) only [evb, evd, pbuiltin, constPV, pnck, seqK, blockK, scopeK, pbin, pun, ppick, plen, piaddr, pindex, pfield, pslice, pbound, pconv, pelems, pextract, pmm, PV.mem?, PV.one, PV.cells, pageq, peqs, peq1, pmakes, pstore, pbytes, pmark, psrc, pkey, pnile, pcap, pgrow, List.set, Value.cells, ↓popG_eq, ↓pop.eq_1, ↓List.getElem?_map, ↓List.getElem?_cons_zero, ↓List.getElem?_cons_succ, Value.oneCell', Nat.reduceAdd, Nat.reduceMul, Nat.reduceSub, Nat.reduceLeDiff, Nat.reduceEqDiff, ↓reduceIte, ne_eq, reduceCtorEq, forall_const, exists_and_left, exists_eq_left', eq_self, Nat.reduceLT, Int.reduceLT, Int.reduceLE, Int.reduceToNat, Int.reduceAdd, Int.reduceSub, Int.reduceNeg, hnm, Try.tf0, Try.tf3, Try.tf4, Try.tf5, Try.tf22, Try.tf33, Try.tf34, Try.teq79, Try.tf93, xor255u, xor000u, sub255, hk1, hk2, List.take_succ_cons, List.drop_succ_cons]); repeat (refine And.intro (by omega) ?_))
    | ((with_reducible first | apply WL_nil | apply W_label | apply W_skip | apply W_exit | apply W_ret); try simp only [seqK, blockK, scopeK, ↓reduceIte, Nat.reduceEqDiff])
    | (with_reducible apply pguard_intro <;> (intro hc; (try simp only [hcb, reduceCtorEq, forall_const, ne_eq] at hc); first | (exfalso; omega) | (exfalso; exact hc trivial) | refine Ev_in ?_))
    | (with_reducible apply W_cond_k; intro _ _ ea eb; (simp only [condK, cob, opnd, constPV, Nat.reduceEqDiff, Nat.reduceLT, ↓reduceIte, hcb, reduceCtorEq, forall_const, ne_eq]); subst ea eb; first | (refine ⟨fun hc => ?_, fun hc => ?_⟩ <;> first | (exfalso; omega) | (exfalso; exact hc trivial) | skip) | skip)
    | (with_reducible apply hnx; clear hnx nx)
    | (with_reducible refine And.intro (by omega) ?_)
    | (with_reducible refine And.intro ?_ ?_)
    | (clear hnx nx; with_reducible apply hnx; clear hnx nx)
    | (clear hnx nx; clear hnx nx; with_reducible apply hnx; clear hnx nx)
    | (clear hnx nx; clear hnx nx; clear hnx nx; with_reducible apply hnx; clear hnx nx))
    all_goals first
      | (refine hfin _ _ (Fin_ret3 rfl rfl rfl (Sub_nil _) ?_); simp only [List.getD_cons_zero, List.getD_cons_succ, fr_getD_cons, fr_getD_nil, Nat.reduceEqDiff, Nat.reduceLT, ↓reduceIte]
         rw [gI_form (h := h) (t := t) (by omega)]
         exact ⟨rfl, by trivial⟩)
      | (refine hfin _ _ (Fin_ret3 rfl rfl rfl (Sub_nil _) ?_); simp only [List.getD_cons_zero, List.getD_cons_succ, fr_getD_cons, fr_getD_nil, Nat.reduceEqDiff, Nat.reduceLT, ↓reduceIte]
         rw [gI_more (h := h) (t := t) (by omega) (by omega)]
         exact ⟨rfl, by trivial⟩)
      | (refine hfin _ _ (Fin_ret3 rfl rfl rfl (Sub_nil _) ?_); simp only [List.getD_cons_zero, List.getD_cons_succ, fr_getD_cons, fr_getD_nil, Nat.reduceEqDiff, Nat.reduceLT, ↓reduceIte]
         rw [gI_bad (h := h) (t := t) (by omega) (by omega) (.inl (by
           have htl : 0 < t.length := by omega
           obtain ⟨d, t', rfl⟩ : ∃ d t', t = d :: t' := by
             cases t with
             | nil => exact absurd htl (by simp)
             | cons d t' => exact ⟨d, t', rfl⟩
           obtain ⟨k', hk'⟩ : ∃ k', kOf h = k' + 1 := ⟨kOf h - 1, by omega⟩
           rw [hk', List.take_succ_cons, List.map_cons, List.head?_cons]
           congr 1
           apply UInt8.toNat_inj.1
           simp only [List.getElem_cons_zero] at hc
           unfold flD
           first
           | (rw [if_pos (by omega), sub255]
              simp
              omega)
           | (rw [if_neg (by omega)]
              simp
              omega)))]
         exact ⟨rfl, by trivial⟩)
      | skip
    all_goals
      have hfl : flI h = 255 ∧ h.toNat < 128 ∨ flI h = 0 ∧ ¬ h.toNat < 128 := by
        unfold flI
        by_cases h1 : h.toNat < 128
        · exact .inl ⟨if_pos h1, h1⟩
        · exact .inr ⟨if_neg h1, h1⟩
      have hkt : min k t.length = k := by omega
      have hz : ¬ (((t.take (kOf h)).map (flD h)).head? = some 0) := by
        cases t with
        | nil => simp
        | cons d t' =>
          rcases Nat.eq_zero_or_pos (kOf h) with h0 | h0
          · simp [h0]
          · obtain ⟨k', hk'⟩ : ∃ k', kOf h = k' + 1 := ⟨kOf h - 1, by omega⟩
            rw [hk', List.take_succ_cons, List.map_cons, List.head?_cons]
            intro he
            have he := congrArg UInt8.toNat (Option.some.inj he)
            try simp only [List.getElem_cons_zero] at hc
            unfold flD at he
            first
            | omega
            | (rw [if_pos (by omega), sub255] at he
               exact hc (by simpa using he))
            | (rw [if_neg (by omega)] at he
               exact hc (by simpa using he))
      obtain ⟨raw, hraw⟩ : ∃ raw, raw = t.take k := ⟨_, rfl⟩
      have hrl : raw.length = k := by rw [hraw, List.length_take, hkt]
      have hgood := gI_good (h := h) (t := t) (by omega) (by omega)
      have hbad := gI_bad (h := h) (t := t) (by omega) (by omega)
      rw [← hk, ← hraw] at hgood hbad hz
      obtain ⟨ds, hds⟩ : ∃ ds, ds = raw.map (flD h) := ⟨_, rfl⟩
      have hdl : ds.length = k := by rw [hds, List.length_map, hrl]
      rw [← hds] at hgood hbad hz
      have hvl := valB_lt ds
      have hpw : 256 ^ ds.length ≤ 256 ^ 8 := Nat.pow_le_pow_right (by omega) (by omega)
      refine W_loop_k (fun z τ => ∃ i : Nat, i ≤ k ∧ z = k - i ∧ τ = ⟨fr 71 [(5, pint .u8 (flI h)), (6, pint .i64 k), (7, pint .u64 (valB (ds.take i))), (46, .list 1 (raw.map pbyte)), (47, pint .i64 k), (48, pint .i64 i)], []⟩) k ⟨fr 71 [(5, pint .u8 (flI h)), (6, pint .i64 k), (7, pint .u64 (valB (ds.take 0))), (46, .list 1 (raw.map pbyte)), (47, pint .i64 k), (48, pint .i64 (0 : Nat))], []⟩ ?_ ⟨0, by omega, by omega, rfl⟩ ?_
    all_goals first
      | (rcases hfl with ⟨h1, h2⟩ | ⟨h1, h2⟩
         all_goals first
           | (exfalso
              omega)
           | (rw [h1, hraw, List.map_take]
              exact Wk_fr (by simp only [wkb, Nat.reduceEqDiff, Nat.reduceLT, ↓reduceIte, hkt, List.take_zero, valB, List.foldl_nil]) (Sub_nil _)))
      | skip
    all_goals
      rintro z τ ⟨i, hi, rfl, rfl⟩ lp hlp
      have hs63 : ((valB ds : Nat) : Int).fdiv (2 ^ min 63 IntKind.u64.bits) = ((valB ds / 2 ^ 63 : Nat) : Int) := by
        rw [show min 63 IntKind.u64.bits = 63 by decide, Int.fdiv_eq_ediv_of_nonneg _ (by decide)]
        rfl
      by_cases hik : i < k
      · have hri : i < raw.length := by omega
        have hdi : i < ds.length := by omega
        have hor : bits .or .u64 (IntKind.u64.wrap (((valB (ds.take i) : Nat) : Int) * 2 ^ min 8 IntKind.u64.bits)) (IntKind.u64.wrap (((flD h raw[i]).toNat : Nat) : Int)) = ((valB (ds.take (i + 1)) : Nat) : Int) := by
          have h1 := valB_lt (ds.take i)
          have h2 : 256 ^ (ds.take i).length ≤ 256 ^ 7 := Nat.pow_le_pow_right (by omega) (by rw [List.length_take]; omega)
          rw [or_shift _ _ (by omega) (flD h raw[i]).toNat_lt, List.take_add_one, List.getElem?_eq_getElem hdi, Option.toList_some, valB_snoc]
          have : ds[i] = flD h raw[i] := by simp [hds]
          rw [this]
        repeat' (first
    | (with_reducible apply W_seq_k; intro nx hnx)
    | (with_reducible first | apply W_block | apply W_scope)
    | (with_reducible refine W_prune 492581209244413 ?_; simp only [prb, Nat.reducePow, Nat.reduceDiv, Nat.reduceMod, Nat.reduceBEq]; with_reducible apply W_region_l)
    | ((first | (with_reducible apply WL_op; intro nx hnx) | with_reducible refine Ev_out ?_ | (with_reducible refine pfresh_k hnm fun nm hnm => ?_; (try simp only [fmb] at hnm)) | (with_reducible refine pborn_mu hnm fun nm hnm => ?_; (try simp only [fmb] at hnm))); try (simp (maxSteps := 2000000) (disch := omega) only [evb, evd, pbuiltin, constPV, pnck, seqK, blockK, scopeK, pbin, pun, ppick, plen, piaddr, pindex, pfield, pslice, pbound, pconv, pelems, pextract, pmm, PV.mem?, PV.one, PV.cells, pageq, peqs, peq1, pmakes, pstore, pbytes, pmark, psrc, pkey, pnile, pcap, pgrow, List.set, Value.cells, ↓popG_eq, ↓pop.eq_1, ↓List.getElem?_map, ↓List.getElem?_cons_zero, ↓List.getElem?_cons_succ, Value.oneCell', Nat.reduceAdd, Nat.reduceMul, Nat.reduceSub, Nat.reduceLeDiff, Nat.reduceEqDiff, ↓reduceIte, ne_eq, reduceCtorEq, forall_const, exists_and_left, exists_eq_left', eq_self, Nat.reduceLT, Int.reduceLT, Int.reduceLE, Int.reduceToNat, Int.reduceAdd, Int.reduceSub, Int.reduceNeg, hnm, Try.tf0, Try.tf3, Try.tf4, Try.tf5, Try.tf22, Try.tf33, Try.tf34, Try.teq79, Try.tf93, flx, hor]); repeat (refine And.intro (by omega) ?_))
    | ((with_reducible first | apply WL_nil | apply W_label | apply W_skip | apply W_exit | apply W_ret); try simp only [seqK, blockK, scopeK, ↓reduceIte, Nat.reduceEqDiff])
    | (with_reducible apply pguard_intro <;> (intro hc; (try simp only [hcb, reduceCtorEq, forall_const, ne_eq] at hc); first | (exfalso; omega) | (exfalso; exact hc trivial) | refine Ev_in ?_))
    | (with_reducible apply W_cond_k; intro _ _ ea eb; (simp only [condK, cob, opnd, constPV, Nat.reduceEqDiff, Nat.reduceLT, ↓reduceIte, hcb, reduceCtorEq, forall_const, ne_eq]); subst ea eb; first | (refine ⟨fun hc => ?_, fun hc => ?_⟩ <;> first | (exfalso; omega) | (exfalso; exact hc trivial) | skip) | skip)
    | (with_reducible apply hnx; clear hnx nx)
    | (with_reducible refine And.intro (by omega) ?_)
    | (with_reducible refine And.intro ?_ ?_)
    | (clear hnx nx; with_reducible apply hnx; clear hnx nx)
    | (clear hnx nx; clear hnx nx; with_reducible apply hnx; clear hnx nx)
    | (clear hnx nx; clear hnx nx; clear hnx nx; with_reducible apply hnx; clear hnx nx))
        all_goals first
          | (exfalso
             omega)
          | (refine hlp _ (k - (i + 1)) _ (by omega) ?_ ⟨i + 1, by omega, rfl, rfl⟩
             exact Wk_fr (by simp only [wkb, Nat.reduceEqDiff, Nat.reduceLT, ↓reduceIte]) (Sub_nil _))
      · have hik2 : i = k := by omega
        subst hik2
        rw [List.take_of_length_le (by omega)]
        repeat' (first
    | (with_reducible apply W_seq_k; intro nx hnx)
    | (with_reducible first | apply W_block | apply W_scope)
    | (with_reducible refine W_prune 492581209244413 ?_; simp only [prb, Nat.reducePow, Nat.reduceDiv, Nat.reduceMod, Nat.reduceBEq]; with_reducible apply W_region_l)
    | ((first | (with_reducible apply WL_op; intro nx hnx) | with_reducible refine Ev_out ?_ | (with_reducible refine pfresh_k hnm fun nm hnm => ?_; (try simp only [fmb] at hnm)) | (with_reducible refine pborn_mu hnm fun nm hnm => ?_; (try simp only [fmb] at hnm))); try (simp (maxSteps := 2000000) (disch := omega) only [evb, evd, pbuiltin, constPV, pnck, seqK, blockK, scopeK, pbin, pun, ppick, plen, piaddr, pindex, pfield, pslice, pbound, pconv, pelems, pextract, pmm, PV.mem?, PV.one, PV.cells, pageq, peqs, peq1, pmakes, pstore, pbytes, pmark, psrc, pkey, pnile, pcap, pgrow, List.set, Value.cells, ↓popG_eq, ↓pop.eq_1, ↓List.getElem?_map, ↓List.getElem?_cons_zero, ↓List.getElem?_cons_succ, Value.oneCell', Nat.reduceAdd, Nat.reduceMul, Nat.reduceSub, Nat.reduceLeDiff, Nat.reduceEqDiff, ↓reduceIte, ne_eq, reduceCtorEq, forall_const, exists_and_left, exists_eq_left', eq_self, Nat.reduceLT, Int.reduceLT, Int.reduceLE, Int.reduceToNat, Int.reduceAdd, Int.reduceSub, Int.reduceNeg, hnm, Try.tf0, Try.tf3, Try.tf4, Try.tf5, Try.tf22, Try.tf33, Try.tf34, Try.teq79, Try.tf93, hs63]); repeat (refine And.intro (by omega) ?_))
    | ((with_reducible first | apply WL_nil | apply W_label | apply W_skip | apply W_exit | apply W_ret); try simp only [seqK, blockK, scopeK, ↓reduceIte, Nat.reduceEqDiff])
    | (with_reducible apply pguard_intro <;> (intro hc; (try simp only [hcb, reduceCtorEq, forall_const, ne_eq] at hc); first | (exfalso; omega) | (exfalso; exact hc trivial) | refine Ev_in ?_))
    | (with_reducible apply W_cond_k; intro _ _ ea eb; (simp only [condK, cob, opnd, constPV, Nat.reduceEqDiff, Nat.reduceLT, ↓reduceIte, hcb, reduceCtorEq, forall_const, ne_eq]); subst ea eb; first | (refine ⟨fun hc => ?_, fun hc => ?_⟩ <;> first | (exfalso; omega) | (exfalso; exact hc trivial) | skip) | skip)
    | (with_reducible apply hnx; clear hnx nx)
    | (with_reducible refine And.intro (by omega) ?_)
    | (with_reducible refine And.intro ?_ ?_)
    | (clear hnx nx; with_reducible apply hnx; clear hnx nx)
    | (clear hnx nx; clear hnx nx; with_reducible apply hnx; clear hnx nx)
    | (clear hnx nx; clear hnx nx; clear hnx nx; with_reducible apply hnx; clear hnx nx))
        all_goals first
          | (exfalso
             omega)
          | (refine hfin _ _ (Fin_ret3 rfl rfl rfl (Sub_nil _) ?_); simp only [List.getD_cons_zero, List.getD_cons_succ, fr_getD_cons, fr_getD_nil, Nat.reduceEqDiff, Nat.reduceLT, ↓reduceIte]
             rw [hbad (.inr (by omega))]
             exact ⟨rfl, by trivial⟩)
          | skip
        all_goals
          have hv : valB ds < 9223372036854775808 := by omega
          have hgd := hgood (by
               rintro (h1 | h1)
               · exact hz h1
               · omega)
          refine hfin _ _ (Fin_ret3 rfl rfl rfl (Sub_nil _) ?_); simp only [List.getD_cons_zero, List.getD_cons_succ, fr_getD_cons, fr_getD_nil, Nat.reduceEqDiff, Nat.reduceLT, ↓reduceIte]
          rw [hgd]
        all_goals first
          | (rw [if_neg (show ¬ h.toNat < 128 by omega)]
             exact ⟨rfl, by trivial⟩)
          | (rw [if_pos (show h.toNat < 128 by omega), wrap_not _ hv]
             exact ⟨rfl, by trivial⟩)
end Go.PM

namespace Go.PM
open Go.Proofs
def valL : List UInt8 → Nat
  | [] => 0
  | d :: l => 256 * valL l + d.toNat
theorem valB_rev : ∀ l : List UInt8, valB l.reverse = valL l
  | [] => rfl
  | d :: l => by rw [List.reverse_cons, valB_snoc, valB_rev l, valL]
theorem valB_eq (l : List UInt8) : valB l = valL l.reverse := by rw [← valB_rev, List.reverse_reverse]
theorem valL_pos : ∀ (l : List UInt8) (h : l ≠ []), l.getLast h ≠ 0 → 0 < valL l
  | [d], _, h => by
    simp only [valL, List.getLast_singleton] at h ⊢
    have : d.toNat ≠ 0 := fun e => h (UInt8.toNat_inj.1 e)
    omega
  | d :: e :: l, _, h => by
    have := valL_pos (e :: l) (by simp) (by simpa using h)
    rw [valL]
    omega
theorem digsF_valL : ∀ (k : Nat) (l : List UInt8), l.length ≤ k → (∀ h : l ≠ [], l.getLast h ≠ 0) → digsF k (valL l) = l
  | 0, l, h, _ => by
    have : l = [] := List.length_eq_zero_iff.1 (by omega)
    subst this
    rfl
  | k + 1, [], _, _ => by rw [digsF]; rfl
  | k + 1, d :: l, h, hz => by
    have hp := valL_pos (d :: l) (by simp) (hz (by simp))
    have hd := d.toNat_lt
    have h2 : digsF k (valL l) = l := digsF_valL k l (by simp at h; omega) fun hl => by
      have := hz (by simp)
      rwa [List.getLast_cons hl] at this
    rw [digsF, if_neg (by omega), valL, show (256 * valL l + d.toNat) / 256 = valL l by omega, h2, show (256 * valL l + d.toNat) % 256 = d.toNat by omega]
    simp
theorem valL_digsF : ∀ (k m : Nat), m < 256 ^ k → valL (digsF k m) = m
  | 0, m, h => by
    rw [digsF, valL]
    simp at h
    omega
  | k + 1, m, h => by
    rw [digsF]
    split
    · rename_i h0
      rw [h0]
      rfl
    · have h1 : m / 256 < 256 ^ k := by
        rw [Nat.pow_succ] at h
        exact Nat.div_lt_of_lt_mul (by rw [Nat.mul_comm]; exact h)
      rw [valL, valL_digsF k _ h1]
      have : (UInt8.ofNat (m % 256)).toNat = m % 256 := UInt8.toNat_ofNat_of_lt' (show _ < 256 by omega)
      rw [this]
      omega
theorem digsF_last : ∀ (k m : Nat), m < 256 ^ k → ∀ h : digsF k m ≠ [], (digsF k m).getLast h ≠ 0
  | 0, m, _, h => absurd rfl h
  | k + 1, m, hm, h => by
    by_cases h0 : m = 0
    · subst h0
      exact absurd (by rw [digsF]; rfl) h
    · have e : digsF (k + 1) m = UInt8.ofNat (m % 256) :: digsF k (m / 256) := by rw [digsF, if_neg h0]
      have h1 : m / 256 < 256 ^ k := by
        rw [Nat.pow_succ] at hm
        exact Nat.div_lt_of_lt_mul (by rw [Nat.mul_comm]; exact hm)
      simp only [e]
      by_cases hn : digsF k (m / 256) = []
      · have hv := valL_digsF k _ h1
        rw [hn] at hv
        simp only [valL] at hv
        simp only [hn, List.getLast_singleton]
        intro e2
        have := congrArg UInt8.toNat e2
        rw [UInt8.toNat_ofNat_of_lt' (show _ < 256 by omega)] at this
        simp at this
        omega
      · rw [List.getLast_cons hn]
        exact digsF_last k _ h1 hn
theorem digs_len (m : Nat) (h : m < 9223372036854775808) : (digs m).length ≤ 8 := (digs_pow 8 m (by omega)).2 (by omega)
theorem digs_val (m : Nat) (h : m < 9223372036854775808) : valB (digs m).reverse = m := by
  rw [valB_rev]
  exact valL_digsF 9 m (by omega)
theorem head_ne (l : List UInt8) (h : ∀ h : l ≠ [], l.getLast h ≠ 0) : l.reverse.head? ≠ some 0 := by
  rw [List.head?_reverse]
  intro e
  obtain ⟨h1, h2⟩ := List.getLast?_eq_some_iff.1 e
  subst h2
  exact h (by simp) (by simp)
theorem digs_head (m : Nat) (h : m < 9223372036854775808) : (digs m).reverse.head? ≠ some 0 := head_ne _ (digsF_last 9 m (by omega))
/-- Digits without a zero ahead are those of their number. -/
theorem digs_of (l : List UInt8) (hl : l.length ≤ 8) (h : l.head? ≠ some 0) : digs (valB l) = l.reverse := by
  rw [valB_eq]
  refine digsF_valL 9 _ (by simp; omega) fun hn e => h ?_
  rw [← List.reverse_reverse l, List.head?_reverse, List.getLast?_eq_some_getLast hn, e]
def hdB (n : Int) (k : Nat) : UInt8 := if n < 0 then UInt8.ofNat (127 - k) else UInt8.ofNat (128 + k)
theorem intB_eq (n : Int) : intB n = hdB n (digs (magn n)).length :: (digs (magn n)).reverse.map (flipB n) := rfl
theorem hdB_nat (n : Int) (k : Nat) (h : k ≤ 8) : (hdB n k).toNat = if n < 0 then 127 - k else 128 + k := by
  unfold hdB
  split
  · rw [UInt8.toNat_ofNat_of_lt' (show _ < 256 by omega)]
  · rw [UInt8.toNat_ofNat_of_lt' (show _ < 256 by omega)]
theorem hdB_kOf (n : Int) (k : Nat) (h : k ≤ 8) : kOf (hdB n k) = k := by
  unfold kOf
  rw [hdB_nat n k h]
  split <;> split <;> omega
theorem hdB_neg (n : Int) (k : Nat) (h : k ≤ 8) : (hdB n k).toNat < 128 ↔ n < 0 := by
  rw [hdB_nat n k h]
  split
  · exact ⟨fun _ => by assumption, fun _ => by omega⟩
  · exact ⟨fun _ => by omega, fun _ => by omega⟩
theorem sub_sub_u8 (d : UInt8) : 255 - (255 - d) = d := by
  apply UInt8.toNat_inj.1
  have := d.toNat_lt
  rw [sub255, sub255]
  omega
theorem flD_flip (n : Int) (k : Nat) (h : k ≤ 8) (d : UInt8) : flD (hdB n k) (flipB n d) = d := by
  unfold flD flipB
  by_cases hn : n < 0
  · rw [if_pos ((hdB_neg n k h).2 hn), if_pos hn, sub_sub_u8]
  · rw [if_neg (fun e => hn ((hdB_neg n k h).1 e)), if_neg hn]
abbrev inR (n : Int) : Prop := -9223372036854775808 ≤ n ∧ n ≤ 9223372036854775807
theorem magn_lt {n : Int} (h : inR n) : magn n < 9223372036854775808 := by
  unfold magn
  split <;> omega
theorem magn_of (n : Int) : n = if n < 0 then -1 - (magn n : Int) else magn n := by
  unfold magn
  split <;> omega
theorem intB_len (n : Int) : (intB n).length = (digs (magn n)).length + 1 := by simp [intB_eq]
theorem intB_len9 {n : Int} (h : inR n) : 1 ≤ (intB n).length ∧ (intB n).length ≤ 9 := by
  have := digs_len _ (magn_lt h)
  rw [intB_len]
  omega
theorem gI_intB {n : Int} (h : inR n) (t : List UInt8) : gI (intB n ++ t) = (n, (intB n).length, 0) := by
  have hk := digs_len _ (magn_lt h)
  have hm := magn_lt h
  rw [intB_eq, List.cons_append]
  have hko := hdB_kOf n _ hk
  have hds : ((((digs (magn n)).reverse.map (flipB n) ++ t).take (digs (magn n)).length).map (flD (hdB n (digs (magn n)).length))) = (digs (magn n)).reverse := by
    rw [List.take_append_of_le_length (by simp), List.take_of_length_le (by simp), List.map_map]
    conv => rhs; rw [← List.map_id (digs (magn n)).reverse]
    exact List.map_congr_left fun d _ => flD_flip n _ hk d
  rw [gI_good (by omega) (by rw [hko]; simp), hko, hds, digs_val _ hm]
  · have := magn_of n
    by_cases hn : n < 0
    · rw [if_pos ((hdB_neg n _ hk).2 hn)]
      rw [if_pos hn] at this
      rw [← this]
      simp
    · rw [if_neg (fun e => hn ((hdB_neg n _ hk).1 e))]
      rw [if_neg hn] at this
      rw [← this]
      simp
  · rw [hko, hds, digs_val _ hm]
    rintro (h1 | h1)
    · exact digs_head _ hm h1
    · omega
theorem kOf_hd (h : UInt8) (n : Int) (hk : kOf h ≤ 8) (hn : n < 0 ↔ h.toNat < 128) : hdB n (kOf h) = h := by
  apply UInt8.toNat_inj.1
  rw [hdB_nat n _ hk]
  have := h.toNat_lt
  unfold kOf
  by_cases h1 : h.toNat < 128
  · rw [if_pos (hn.2 h1), if_pos h1]
    omega
  · rw [if_neg (fun e => h1 (hn.1 e)), if_neg h1]
    omega
theorem flip_flD (n : Int) (h d : UInt8) (hn : n < 0 ↔ h.toNat < 128) : flipB n (flD h d) = d := by
  unfold flD flipB
  by_cases h1 : h.toNat < 128
  · rw [if_pos (hn.2 h1), if_pos h1, sub_sub_u8]
  · rw [if_neg (fun e => h1 (hn.1 e)), if_neg h1]
theorem magn_sgn (m : Nat) (b : Prop) [Decidable b] : magn (if b then -1 - (m : Int) else m) = m ∧ ((if b then -1 - (m : Int) else m) < 0 ↔ b) := by
  by_cases hb : b
  · rw [if_pos hb]
    unfold magn
    rw [if_pos (by omega)]
    exact ⟨by omega, fun _ => hb, fun _ => by omega⟩
  · rw [if_neg hb]
    unfold magn
    rw [if_neg (by omega)]
    exact ⟨by omega, fun _ => by omega, fun h => absurd h hb⟩
/-- What is encoded of digits. -/
theorem intB_of (h : UInt8) (ds : List UInt8) (hk : kOf h = ds.length) (hl : ds.length ≤ 8) (hz : ds.head? ≠ some 0) :
    intB (if h.toNat < 128 then -1 - (valB ds : Int) else valB ds) = h :: ds.map (fun d => flipB (if h.toNat < 128 then -1 - (valB ds : Int) else valB ds) d) := by
  obtain ⟨h1, h2⟩ := magn_sgn (valB ds) (h.toNat < 128)
  rw [intB_eq, h1, digs_of ds hl hz, List.reverse_reverse, List.length_reverse, ← hk, kOf_hd h _ (by omega) h2]
theorem gI_ok {b : List UInt8} {n : Int} {u : Nat} (hg : gI b = (n, u, 0)) : u ≤ b.length ∧ b.take u = intB n ∧ inR n := by
  cases b with
  | nil => simp [gI] at hg
  | cons h t =>
    by_cases h1 : 8 < kOf h
    · rw [gI_form h1] at hg
      simp at hg
    · by_cases h2 : t.length < kOf h
      · rw [gI_more h1 h2] at hg
        simp at hg
      · by_cases h3 : ((t.take (kOf h)).map (flD h)).head? = some 0 ∨ 9223372036854775808 ≤ valB ((t.take (kOf h)).map (flD h))
        · rw [gI_bad h1 h2 h3] at hg
          simp at hg
        · rw [gI_good h1 h2 h3] at hg
          simp only [Prod.mk.injEq, and_true] at hg
          obtain ⟨rfl, rfl⟩ := hg
          have hdl : ((t.take (kOf h)).map (flD h)).length = kOf h := by simp; omega
          obtain ⟨ds, hds⟩ : ∃ ds, ds = (t.take (kOf h)).map (flD h) := ⟨_, rfl⟩
          rw [← hds] at h3 hdl ⊢
          obtain ⟨m1, m2⟩ := magn_sgn (valB ds) (h.toNat < 128)
          refine ⟨by simp; omega, ?_, ?_⟩
          · rw [intB_of h ds hdl.symm (by omega) (fun e => h3 (.inl e)), List.take_succ_cons, hds, List.map_map]
            rw [← hds]
            congr 1
            conv => lhs; rw [← List.map_id (t.take (kOf h))]
            exact List.map_congr_left fun d _ => (flip_flD _ h d m2).symm
          · constructor <;> split <;> omega
theorem gI_err {b : List UInt8} {n : Int} {u : Nat} {e : Int} (hg : gI b = (n, u, e)) : e = 0 ∨ (n = 0 ∧ u = 0 ∧ (e = 2 ∨ e = 3)) := by
  cases b with
  | nil =>
    simp [gI] at hg
    right
    omega
  | cons h t =>
    rw [gI] at hg
    split at hg
    · simp at hg
      right
      omega
    · split at hg
      · simp at hg
        right
        omega
      · split at hg
        · simp at hg
          right
          omega
        · simp only [Prod.mk.injEq] at hg
          exact .inl hg.2.2.symm
theorem gI_le (b : List UInt8) : (gI b).2.1 ≤ b.length := by
  obtain ⟨⟨n, u, e⟩, hg⟩ : ∃ x, x = gI b := ⟨_, rfl⟩
  rw [← hg]
  rcases gI_err hg.symm with h | h
  · subst h
    exact (gI_ok hg.symm).1
  · simp [h.2.1]
end Go.PM

namespace Go.PM
open Go.Proofs
attribute [local irreducible] W PCalls pcall pcallI WL
end Go.PM

namespace Go.PM
open Go.Proofs
attribute [local irreducible] W PCalls pcall pcallI WL
/-- The number of elements, the position, the error. -/
def gC (size : Nat) (b : List UInt8) : Int × Nat × Int :=
  if (gI b).2.2 ≠ 0 then (0, 0, (gI b).2.2)
  else if (gI b).1 < 0 then (0, 0, 2)
  else if ((b.length - (gI b).2.1 : Nat) : Int) / size < (gI b).1 then (0, 0, 3)
  else gI b
/-- What comes back: with an error the others do not matter. -/
def CRes (x : Int × Nat × Int) (res : PV) : Prop := ∃ n u : Int, res = .tuple [pint .i64 n, pint .i64 u, pint .i64 x.2.2] ∧ (x.2.2 = 0 → n = x.1 ∧ u = x.2.1)
theorem gI_vals (b : List UInt8) (hb : (b.length : Int) ≤ 4611686018427387904) : inR (gI b).1 ∧ (gI b).2.1 ≤ b.length ∧ 0 ≤ (gI b).2.2 ∧ (gI b).2.2 ≤ 3 := by
  have h1 := gI_le b
  obtain ⟨⟨n, u, e⟩, hg⟩ : ∃ x, x = gI b := ⟨_, rfl⟩
  rw [← hg] at h1 ⊢
  rcases gI_err hg.symm with h | h
  · subst h
    exact ⟨(gI_ok hg.symm).2.2, h1, by simp, by simp⟩
  · obtain ⟨rfl, rfl, h⟩ := h
    refine ⟨⟨by simp, by simp⟩, h1, ?_, ?_⟩ <;> simp only <;> omega
set_option maxRecDepth 100000 in
set_option maxHeartbeats 8000000 in
theorem count_c (G : Globs) (b : List UInt8) (size : Nat) (hs : 1 ≤ size) (hs2 : size ≤ 16) (hb : (b.length : Int) ≤ 4611686018427387904) :
    PCalls Try.prog G 52 [.list 1 (b.map pbyte), pint .i64 size] [] (fun res H => CRes (gC size b) res ∧ H = []) := by
  obtain ⟨hn, hu, he0, he3⟩ := gI_vals b hb
  (refine PCalls_f Try.func52 rfl Try.ntmps52 Try.results52 (by simp) fun fin hfin => ?_; have hnm : True := trivial; simp (maxSteps := 2000000) (disch := omega) only [evb, evd, pbuiltin, constPV, pnck, seqK, blockK, scopeK, pbin, pun, ppick, plen, piaddr, pindex, pfield, pslice, pbound, pconv, pelems, pextract, pmm, PV.mem?, PV.one, PV.cells, pageq, peqs, peq1, pmakes, pstore, pbytes, pmark, psrc, pkey, pnile, pcap, pgrow, List.set, Value.cells, ↓popG_eq, ↓pop.eq_1, ↓List.getElem?_map, ↓List.getElem?_cons_zero, ↓List.getElem?_cons_succ, Value.oneCell', Nat.reduceAdd, Nat.reduceMul, Nat.reduceSub, Nat.reduceLeDiff, Nat.reduceEqDiff, ↓reduceIte, ne_eq, reduceCtorEq, forall_const, exists_and_left, exists_eq_left', eq_self, Nat.reduceLT, Int.reduceLT, Int.reduceLE, Int.reduceToNat, Int.reduceAdd, Int.reduceSub, Int.reduceNeg, hnm, Try.tf0, Try.tf1, Try.tf2, Try.tf3, Try.tf4, Try.tf5, Try.tf33, Try.tf34, Try.teq79, Try.tf88, Try.call56])
  repeat' (first
    | (with_reducible apply W_seq_k; intro nx hnx)
    | (with_reducible first | apply W_block | apply W_scope)
    | (with_reducible refine W_prune 115 ?_; simp only [prb, Nat.reducePow, Nat.reduceDiv, Nat.reduceMod, Nat.reduceBEq]; with_reducible apply W_region_l)
    | ((first | (with_reducible apply WL_op; intro nx hnx) | with_reducible refine Ev_out ?_); try (simp (maxSteps := 2000000) (disch := omega) only [evb, evd, pbuiltin, constPV, pnck, seqK, blockK, scopeK, pbin, pun, ppick, plen, piaddr, pindex, pfield, pslice, pbound, pconv, pelems, pextract, pmm, PV.mem?, PV.one, PV.cells, pageq, peqs, peq1, pmakes, pstore, pbytes, pmark, psrc, pkey, pnile, pcap, pgrow, List.set, Value.cells, ↓popG_eq, ↓pop.eq_1, ↓List.getElem?_map, ↓List.getElem?_cons_zero, ↓List.getElem?_cons_succ, Value.oneCell', Nat.reduceAdd, Nat.reduceMul, Nat.reduceSub, Nat.reduceLeDiff, Nat.reduceEqDiff, ↓reduceIte, ne_eq, reduceCtorEq, forall_const, exists_and_left, exists_eq_left', eq_self, Nat.reduceLT, Int.reduceLT, Int.reduceLE, Int.reduceToNat, Int.reduceAdd, Int.reduceSub, Int.reduceNeg, hnm, Try.tf0, Try.tf1, Try.tf2, Try.tf3, Try.tf4, Try.tf5, Try.tf33, Try.tf34, Try.teq79, Try.tf88, Try.call56]); repeat (refine And.intro (by omega) ?_))
    | ((with_reducible first | apply WL_nil | apply W_label | apply W_skip | apply W_exit | apply W_ret); try simp only [seqK, blockK, scopeK, ↓reduceIte, Nat.reduceEqDiff])
    | (with_reducible apply W_cond_k; intro _ _ ea eb; (simp only [condK, cob, opnd, constPV, Nat.reduceEqDiff, Nat.reduceLT, ↓reduceIte, hcb, reduceCtorEq, forall_const, ne_eq]); subst ea eb; first | (refine ⟨fun hc => ?_, fun hc => ?_⟩ <;> first | (exfalso; omega) | (exfalso; exact hc trivial) | skip) | skip)
    | (with_reducible apply hnx; clear hnx nx)
    | (with_reducible refine And.intro (by omega) ?_)
    | (with_reducible refine And.intro ?_ ?_)
    | (clear hnx nx; with_reducible apply hnx; clear hnx nx)
    | (clear hnx nx; clear hnx nx; with_reducible apply hnx; clear hnx nx)
    | (clear hnx nx; clear hnx nx; clear hnx nx; with_reducible apply hnx; clear hnx nx))
  refine pcall_k (getInt_c G b hb) ?_
  rintro _ _ ⟨rfl, rfl⟩ -
  obtain ⟨⟨n, u, e⟩, hg⟩ : ∃ x, x = gI b := ⟨_, rfl⟩
  rw [← hg] at hn hu he0 he3
  simp only at hn hu he0 he3
  have hq : ((b.length : Int) - u).tdiv size = ((b.length - u : Nat) : Int) / size := by
    rw [Int.tdiv_eq_ediv_of_nonneg (by omega)]
    congr 1
    omega
  have hq2 : 0 ≤ ((b.length - u : Nat) : Int) / size := Int.ediv_nonneg (by omega) (by omega)
  have hq3 : ((b.length - u : Nat) : Int) / size ≤ ((b.length - u : Nat) : Int) := Int.ediv_le_self _ (by omega)
  simp only [t3]
  rw [← hg]
  refine Ev_in ?_
  repeat' (first
    | (with_reducible apply W_seq_k; intro nx hnx)
    | (with_reducible first | apply W_block | apply W_scope)
    | (with_reducible refine W_prune 115 ?_; simp only [prb, Nat.reducePow, Nat.reduceDiv, Nat.reduceMod, Nat.reduceBEq]; with_reducible apply W_region_l)
    | ((first | (with_reducible apply WL_op; intro nx hnx) | with_reducible refine Ev_out ?_); try (simp (maxSteps := 2000000) (disch := omega) only [evb, evd, pbuiltin, constPV, pnck, seqK, blockK, scopeK, pbin, pun, ppick, plen, piaddr, pindex, pfield, pslice, pbound, pconv, pelems, pextract, pmm, PV.mem?, PV.one, PV.cells, pageq, peqs, peq1, pmakes, pstore, pbytes, pmark, psrc, pkey, pnile, pcap, pgrow, List.set, Value.cells, ↓popG_eq, ↓pop.eq_1, ↓List.getElem?_map, ↓List.getElem?_cons_zero, ↓List.getElem?_cons_succ, Value.oneCell', Nat.reduceAdd, Nat.reduceMul, Nat.reduceSub, Nat.reduceLeDiff, Nat.reduceEqDiff, ↓reduceIte, ne_eq, reduceCtorEq, forall_const, exists_and_left, exists_eq_left', eq_self, Nat.reduceLT, Int.reduceLT, Int.reduceLE, Int.reduceToNat, Int.reduceAdd, Int.reduceSub, Int.reduceNeg, hnm, Try.tf0, Try.tf1, Try.tf2, Try.tf3, Try.tf4, Try.tf5, Try.tf33, Try.tf34, Try.teq79, Try.tf88, Try.call56, hq]); repeat (refine And.intro (by omega) ?_))
    | ((with_reducible first | apply WL_nil | apply W_label | apply W_skip | apply W_exit | apply W_ret); try simp only [seqK, blockK, scopeK, ↓reduceIte, Nat.reduceEqDiff])
    | (with_reducible apply W_cond_k; intro _ _ ea eb; (simp only [condK, cob, opnd, constPV, Nat.reduceEqDiff, Nat.reduceLT, ↓reduceIte, hcb, reduceCtorEq, forall_const, ne_eq]); subst ea eb; first | (refine ⟨fun hc => ?_, fun hc => ?_⟩ <;> first | (exfalso; omega) | (exfalso; exact hc trivial) | skip) | skip)
    | (with_reducible apply hnx; clear hnx nx)
    | (with_reducible refine And.intro (by omega) ?_)
    | (with_reducible refine And.intro ?_ ?_)
    | (clear hnx nx; with_reducible apply hnx; clear hnx nx)
    | (clear hnx nx; clear hnx nx; with_reducible apply hnx; clear hnx nx)
    | (clear hnx nx; clear hnx nx; clear hnx nx; with_reducible apply hnx; clear hnx nx))
  all_goals
    refine hfin _ _ (Fin_ret3 rfl rfl rfl (Sub_nil _) ?_); simp only [List.getD_cons_zero, List.getD_cons_succ, fr_getD_cons, fr_getD_nil, Nat.reduceEqDiff, Nat.reduceLT, ↓reduceIte]
    refine ⟨⟨n, u, ?_⟩, by trivial⟩
    unfold gC
    rw [← hg]
    simp only
  · rw [if_pos hc]
    exact ⟨rfl, fun h => absurd h hc⟩
  · rw [if_neg (by omega), if_pos hc]
    exact ⟨rfl, fun h => absurd h (by decide)⟩
  · rw [if_neg (by omega), if_neg (by omega), if_pos hc]
    exact ⟨rfl, fun h => absurd h (by decide)⟩
  · rw [if_neg (by omega), if_neg (by omega), if_neg (by omega)]
    exact ⟨rfl, fun _ => ⟨rfl, rfl⟩⟩
end Go.PM

namespace Go.PM
open Go.Proofs
attribute [local irreducible] W PCalls pcall pcallI WL
def bytesB (s : List UInt8) : List UInt8 := intB s.length ++ s
/-- The encoding of a list, given that of an element. -/
def encL {α : Type} (enc : α → List UInt8) (l : List α) : List UInt8 := intB l.length ++ l.flatMap enc
abbrev RowB (x : List UInt8) (res : PV) (H : Heap) : Prop := ∃ N, res = .row N 1 x.length ∧ H = [(N, ⟨5, true, 1, x.map pbyte⟩)]
theorem RowB.frz {G : Globs} {f : FuncId} {args : List PV} {x : List UInt8} (h : PCalls Try.prog G f args [] (RowB x)) : PCalls Try.prog G f args [] (fun res H => res = .list 1 (x.map pbyte) ∧ H = []) :=
  h.frz_row (xs := x.map pbyte) fun res H h => by
    obtain ⟨N, h1, h2⟩ := h
    exact ⟨N, 5, by rw [List.length_map]; exact h1, h2⟩
theorem flat_pb (l : List UInt8) : flat (l.map pbyte) = l.map pbyte := by
  induction l with
  | nil => rfl
  | cons x l ih =>
    simp only [flat, List.map_cons, List.flatMap_cons] at ih ⊢
    rw [ih]
    rfl
def preE {α : Type} (enc : α → List UInt8) (l : List α) (i : Nat) : List UInt8 := intB l.length ++ (l.take i).flatMap enc
theorem preE_zero {α : Type} (enc : α → List UInt8) (l : List α) : preE enc l 0 = intB l.length := by simp [preE]
theorem preE_succ {α : Type} (enc : α → List UInt8) (l : List α) (i : Nat) (h : i < l.length) : preE enc l (i + 1) = preE enc l i ++ enc l[i] := by
  rw [preE, List.take_add_one, List.getElem?_eq_getElem h, Option.toList_some, List.flatMap_append, ← List.append_assoc, List.flatMap_singleton]
  rfl
theorem preE_all {α : Type} (enc : α → List UInt8) (l : List α) (i : Nat) (h : l.length ≤ i) : preE enc l i = encL enc l := by
  rw [preE, List.take_of_length_le h]
  rfl
theorem preE_le {α : Type} (enc : α → List UInt8) (l : List α) (i : Nat) : (preE enc l i).length ≤ (encL enc l).length := by
  have h : encL enc l = preE enc l i ++ (l.drop i).flatMap enc := by
    rw [encL, preE, List.append_assoc, ← List.flatMap_append, List.take_append_drop]
  rw [h, List.length_append]
  omega
set_option maxRecDepth 100000 in
set_option maxHeartbeats 8000000 in
theorem wbytes_r (G : Globs) (s : List UInt8) (hs : s.length ≤ 4294967296) : PCalls Try.prog G 27 [pstr s] [] (RowB (bytesB s)) := by
  have h9 := intB_len9 (n := s.length) ⟨by omega, by omega⟩
  (refine PCalls_f Try.func27 rfl Try.ntmps27 Try.results27 (by simp) fun fin hfin => ?_; have hnm : True := trivial; simp (maxSteps := 2000000) (disch := omega) only [evb, evd, pbuiltin, constPV, pnck, seqK, blockK, scopeK, pbin, pun, ppick, plen, piaddr, pindex, pfield, pslice, pbound, pconv, pelems, pextract, pmm, PV.mem?, PV.one, PV.cells, pageq, peqs, peq1, pmakes, pstore, pbytes, pmark, psrc, pkey, pnile, pcap, pgrow, List.set, Value.cells, ↓popG_eq, ↓pop.eq_1, ↓List.getElem?_map, ↓List.getElem?_cons_zero, ↓List.getElem?_cons_succ, Value.oneCell', Nat.reduceAdd, Nat.reduceMul, Nat.reduceSub, Nat.reduceLeDiff, Nat.reduceEqDiff, ↓reduceIte, ne_eq, reduceCtorEq, forall_const, exists_and_left, exists_eq_left', eq_self, Nat.reduceLT, Int.reduceLT, Int.reduceLE, Int.reduceToNat, Int.reduceAdd, Int.reduceSub, Int.reduceNeg, hnm, Try.tf3, Try.tf5, Try.tf9, Try.tf33, Try.teq79, Try.call43])
  repeat' (first
    | (with_reducible apply W_seq_k; intro nx hnx)
    | (with_reducible first | apply W_block | apply W_scope)
    | (with_reducible refine W_prune 5 ?_; simp only [prb, Nat.reducePow, Nat.reduceDiv, Nat.reduceMod, Nat.reduceBEq]; with_reducible apply W_region_l)
    | ((first | (with_reducible apply WL_op; intro nx hnx) | with_reducible refine Ev_out ?_ | (with_reducible refine pfresh_k hnm fun nm hnm => ?_; (try simp only [fmb] at hnm)) | (with_reducible refine pborn_mu hnm fun nm hnm => ?_; (try simp only [fmb] at hnm))); try (simp (maxSteps := 2000000) (disch := omega) only [evb, evd, pbuiltin, constPV, pnck, seqK, blockK, scopeK, pbin, pun, ppick, plen, piaddr, pindex, pfield, pslice, pbound, pconv, pelems, pextract, pmm, PV.mem?, PV.one, PV.cells, pageq, peqs, peq1, pmakes, pstore, pbytes, pmark, psrc, pkey, pnile, pcap, pgrow, List.set, Value.cells, ↓popG_eq, ↓pop.eq_1, ↓List.getElem?_map, ↓List.getElem?_cons_zero, ↓List.getElem?_cons_succ, Value.oneCell', Nat.reduceAdd, Nat.reduceMul, Nat.reduceSub, Nat.reduceLeDiff, Nat.reduceEqDiff, ↓reduceIte, ne_eq, reduceCtorEq, forall_const, exists_and_left, exists_eq_left', eq_self, Nat.reduceLT, Int.reduceLT, Int.reduceLE, Int.reduceToNat, Int.reduceAdd, Int.reduceSub, Int.reduceNeg, hnm, Try.tf3, Try.tf5, Try.tf9, Try.tf33, Try.teq79, Try.call43]); repeat (refine And.intro (by omega) ?_))
    | ((with_reducible first | apply WL_nil | apply W_label | apply W_skip | apply W_exit | apply W_ret); try simp only [seqK, blockK, scopeK, ↓reduceIte, Nat.reduceEqDiff])
    | (with_reducible apply W_cond_k; intro _ _ ea eb; (simp only [condK, cob, opnd, constPV, Nat.reduceEqDiff, Nat.reduceLT, ↓reduceIte, hcb, reduceCtorEq, forall_const, ne_eq]); subst ea eb; first | (refine ⟨fun hc => ?_, fun hc => ?_⟩ <;> first | (exfalso; omega) | (exfalso; exact hc trivial) | skip) | skip)
    | (with_reducible apply hnx; clear hnx nx)
    | (with_reducible refine And.intro (by omega) ?_)
    | (with_reducible refine And.intro ?_ ?_)
    | (clear hnx nx; with_reducible apply hnx; clear hnx nx)
    | (clear hnx nx; clear hnx nx; with_reducible apply hnx; clear hnx nx)
    | (clear hnx nx; clear hnx nx; clear hnx nx; with_reducible apply hnx; clear hnx nx))
  refine pcall_k (wint_r G s.length (by omega) (by omega)) ?_
  rintro _ _ ⟨N, rfl, rfl⟩ -
  refine Ev_in ?_
  repeat' (first
    | (with_reducible apply W_seq_k; intro nx hnx)
    | (with_reducible first | apply W_block | apply W_scope)
    | (with_reducible refine W_prune 5 ?_; simp only [prb, Nat.reducePow, Nat.reduceDiv, Nat.reduceMod, Nat.reduceBEq]; with_reducible apply W_region_l)
    | ((first | (with_reducible apply WL_op; intro nx hnx) | with_reducible refine Ev_out ?_ | (with_reducible refine pfresh_k hnm fun nm hnm => ?_; (try simp only [fmb] at hnm)) | (with_reducible refine pborn_mu hnm fun nm hnm => ?_; (try simp only [fmb] at hnm))); try (simp (maxSteps := 2000000) (disch := omega) only [evb, evd, pbuiltin, constPV, pnck, seqK, blockK, scopeK, pbin, pun, ppick, plen, piaddr, pindex, pfield, pslice, pbound, pconv, pelems, pextract, pmm, PV.mem?, PV.one, PV.cells, pageq, peqs, peq1, pmakes, pstore, pbytes, pmark, psrc, pkey, pnile, pcap, pgrow, List.set, Value.cells, ↓popG_eq, ↓pop.eq_1, ↓List.getElem?_map, ↓List.getElem?_cons_zero, ↓List.getElem?_cons_succ, Value.oneCell', Nat.reduceAdd, Nat.reduceMul, Nat.reduceSub, Nat.reduceLeDiff, Nat.reduceEqDiff, ↓reduceIte, ne_eq, reduceCtorEq, forall_const, exists_and_left, exists_eq_left', eq_self, Nat.reduceLT, Int.reduceLT, Int.reduceLE, Int.reduceToNat, Int.reduceAdd, Int.reduceSub, Int.reduceNeg, hnm, Try.tf3, Try.tf5, Try.tf9, Try.tf33, Try.teq79, Try.call43]); repeat (refine And.intro (by omega) ?_))
    | ((with_reducible first | apply WL_nil | apply W_label | apply W_skip | apply W_exit | apply W_ret); try simp only [seqK, blockK, scopeK, ↓reduceIte, Nat.reduceEqDiff])
    | (with_reducible apply W_cond_k; intro _ _ ea eb; (simp only [condK, cob, opnd, constPV, Nat.reduceEqDiff, Nat.reduceLT, ↓reduceIte, hcb, reduceCtorEq, forall_const, ne_eq]); subst ea eb; first | (refine ⟨fun hc => ?_, fun hc => ?_⟩ <;> first | (exfalso; omega) | (exfalso; exact hc trivial) | skip) | skip)
    | (with_reducible apply hnx; clear hnx nx)
    | (with_reducible refine And.intro (by omega) ?_)
    | (with_reducible refine And.intro ?_ ?_)
    | (clear hnx nx; with_reducible apply hnx; clear hnx nx)
    | (clear hnx nx; clear hnx nx; with_reducible apply hnx; clear hnx nx)
    | (clear hnx nx; clear hnx nx; clear hnx nx; with_reducible apply hnx; clear hnx nx))
  all_goals first
    | exact rfl
    | (rw [bytes_length]
       omega)
    | (refine hfin _ _ (Fin_ret1 rfl (Sub_refl (by simp [names])) ?_); simp only [List.getD_cons_zero, List.getD_cons_succ, fr_getD_cons, fr_getD_nil, Nat.reduceEqDiff, Nat.reduceLT, ↓reduceIte]
       refine ⟨nm, ?_, ?_⟩
       · simp [bytesB, bytes_length]
       · simp only [bytesB, bytes, flat_pb, List.map_append])
theorem wbytes_c (G : Globs) (s : List UInt8) (hs : s.length ≤ 4294967296) : PCalls Try.prog G 27 [pstr s] [] (fun res H => res = .list 1 ((bytesB s).map pbyte) ∧ H = []) := RowB.frz (wbytes_r G s hs)
set_option maxRecDepth 100000 in
set_option maxHeartbeats 8000000 in
theorem rbytes_r (G : Globs) (s : List UInt8) (hs : s.length ≤ 4294967296) : PCalls Try.prog G 35 [pstr s] [] (RowB (bytesB s)) := by
  have h9 := intB_len9 (n := s.length) ⟨by omega, by omega⟩
  (refine PCalls_f Try.func35 rfl Try.ntmps35 Try.results35 (by simp) fun fin hfin => ?_; have hnm : True := trivial; simp (maxSteps := 2000000) (disch := omega) only [evb, evd, pbuiltin, constPV, pnck, seqK, blockK, scopeK, pbin, pun, ppick, plen, piaddr, pindex, pfield, pslice, pbound, pconv, pelems, pextract, pmm, PV.mem?, PV.one, PV.cells, pageq, peqs, peq1, pmakes, pstore, pbytes, pmark, psrc, pkey, pnile, pcap, pgrow, List.set, Value.cells, ↓popG_eq, ↓pop.eq_1, ↓List.getElem?_map, ↓List.getElem?_cons_zero, ↓List.getElem?_cons_succ, Value.oneCell', Nat.reduceAdd, Nat.reduceMul, Nat.reduceSub, Nat.reduceLeDiff, Nat.reduceEqDiff, ↓reduceIte, ne_eq, reduceCtorEq, forall_const, exists_and_left, exists_eq_left', eq_self, Nat.reduceLT, Int.reduceLT, Int.reduceLE, Int.reduceToNat, Int.reduceAdd, Int.reduceSub, Int.reduceNeg, hnm, Try.tf3, Try.tf5, Try.tf9, Try.tf33, Try.teq79, Try.call45])
  repeat' (first
    | (with_reducible apply W_seq_k; intro nx hnx)
    | (with_reducible first | apply W_block | apply W_scope)
    | (with_reducible refine W_prune 5 ?_; simp only [prb, Nat.reducePow, Nat.reduceDiv, Nat.reduceMod, Nat.reduceBEq]; with_reducible apply W_region_l)
    | ((first | (with_reducible apply WL_op; intro nx hnx) | with_reducible refine Ev_out ?_ | (with_reducible refine pfresh_k hnm fun nm hnm => ?_; (try simp only [fmb] at hnm)) | (with_reducible refine pborn_mu hnm fun nm hnm => ?_; (try simp only [fmb] at hnm))); try (simp (maxSteps := 2000000) (disch := omega) only [evb, evd, pbuiltin, constPV, pnck, seqK, blockK, scopeK, pbin, pun, ppick, plen, piaddr, pindex, pfield, pslice, pbound, pconv, pelems, pextract, pmm, PV.mem?, PV.one, PV.cells, pageq, peqs, peq1, pmakes, pstore, pbytes, pmark, psrc, pkey, pnile, pcap, pgrow, List.set, Value.cells, ↓popG_eq, ↓pop.eq_1, ↓List.getElem?_map, ↓List.getElem?_cons_zero, ↓List.getElem?_cons_succ, Value.oneCell', Nat.reduceAdd, Nat.reduceMul, Nat.reduceSub, Nat.reduceLeDiff, Nat.reduceEqDiff, ↓reduceIte, ne_eq, reduceCtorEq, forall_const, exists_and_left, exists_eq_left', eq_self, Nat.reduceLT, Int.reduceLT, Int.reduceLE, Int.reduceToNat, Int.reduceAdd, Int.reduceSub, Int.reduceNeg, hnm, Try.tf3, Try.tf5, Try.tf9, Try.tf33, Try.teq79, Try.call45]); repeat (refine And.intro (by omega) ?_))
    | ((with_reducible first | apply WL_nil | apply W_label | apply W_skip | apply W_exit | apply W_ret); try simp only [seqK, blockK, scopeK, ↓reduceIte, Nat.reduceEqDiff])
    | (with_reducible apply W_cond_k; intro _ _ ea eb; (simp only [condK, cob, opnd, constPV, Nat.reduceEqDiff, Nat.reduceLT, ↓reduceIte, hcb, reduceCtorEq, forall_const, ne_eq]); subst ea eb; first | (refine ⟨fun hc => ?_, fun hc => ?_⟩ <;> first | (exfalso; omega) | (exfalso; exact hc trivial) | skip) | skip)
    | (with_reducible apply hnx; clear hnx nx)
    | (with_reducible refine And.intro (by omega) ?_)
    | (with_reducible refine And.intro ?_ ?_)
    | (clear hnx nx; with_reducible apply hnx; clear hnx nx)
    | (clear hnx nx; clear hnx nx; with_reducible apply hnx; clear hnx nx)
    | (clear hnx nx; clear hnx nx; clear hnx nx; with_reducible apply hnx; clear hnx nx))
  refine pcall_k (rint_r G s.length (by omega) (by omega)) ?_
  rintro _ _ ⟨N, rfl, rfl⟩ -
  refine Ev_in ?_
  repeat' (first
    | (with_reducible apply W_seq_k; intro nx hnx)
    | (with_reducible first | apply W_block | apply W_scope)
    | (with_reducible refine W_prune 5 ?_; simp only [prb, Nat.reducePow, Nat.reduceDiv, Nat.reduceMod, Nat.reduceBEq]; with_reducible apply W_region_l)
    | ((first | (with_reducible apply WL_op; intro nx hnx) | with_reducible refine Ev_out ?_ | (with_reducible refine pfresh_k hnm fun nm hnm => ?_; (try simp only [fmb] at hnm)) | (with_reducible refine pborn_mu hnm fun nm hnm => ?_; (try simp only [fmb] at hnm))); try (simp (maxSteps := 2000000) (disch := omega) only [evb, evd, pbuiltin, constPV, pnck, seqK, blockK, scopeK, pbin, pun, ppick, plen, piaddr, pindex, pfield, pslice, pbound, pconv, pelems, pextract, pmm, PV.mem?, PV.one, PV.cells, pageq, peqs, peq1, pmakes, pstore, pbytes, pmark, psrc, pkey, pnile, pcap, pgrow, List.set, Value.cells, ↓popG_eq, ↓pop.eq_1, ↓List.getElem?_map, ↓List.getElem?_cons_zero, ↓List.getElem?_cons_succ, Value.oneCell', Nat.reduceAdd, Nat.reduceMul, Nat.reduceSub, Nat.reduceLeDiff, Nat.reduceEqDiff, ↓reduceIte, ne_eq, reduceCtorEq, forall_const, exists_and_left, exists_eq_left', eq_self, Nat.reduceLT, Int.reduceLT, Int.reduceLE, Int.reduceToNat, Int.reduceAdd, Int.reduceSub, Int.reduceNeg, hnm, Try.tf3, Try.tf5, Try.tf9, Try.tf33, Try.teq79, Try.call45]); repeat (refine And.intro (by omega) ?_))
    | ((with_reducible first | apply WL_nil | apply W_label | apply W_skip | apply W_exit | apply W_ret); try simp only [seqK, blockK, scopeK, ↓reduceIte, Nat.reduceEqDiff])
    | (with_reducible apply W_cond_k; intro _ _ ea eb; (simp only [condK, cob, opnd, constPV, Nat.reduceEqDiff, Nat.reduceLT, ↓reduceIte, hcb, reduceCtorEq, forall_const, ne_eq]); subst ea eb; first | (refine ⟨fun hc => ?_, fun hc => ?_⟩ <;> first | (exfalso; omega) | (exfalso; exact hc trivial) | skip) | skip)
    | (with_reducible apply hnx; clear hnx nx)
    | (with_reducible refine And.intro (by omega) ?_)
    | (with_reducible refine And.intro ?_ ?_)
    | (clear hnx nx; with_reducible apply hnx; clear hnx nx)
    | (clear hnx nx; clear hnx nx; with_reducible apply hnx; clear hnx nx)
    | (clear hnx nx; clear hnx nx; clear hnx nx; with_reducible apply hnx; clear hnx nx))
  all_goals first
    | exact rfl
    | (rw [bytes_length]
       omega)
    | (refine hfin _ _ (Fin_ret1 rfl (Sub_refl (by simp [names])) ?_); simp only [List.getD_cons_zero, List.getD_cons_succ, fr_getD_cons, fr_getD_nil, Nat.reduceEqDiff, Nat.reduceLT, ↓reduceIte]
       refine ⟨nm, ?_, ?_⟩
       · simp [bytesB, bytes_length]
       · simp only [bytesB, bytes, flat_pb, List.map_append])
theorem rbytes_c (G : Globs) (s : List UInt8) (hs : s.length ≤ 4294967296) : PCalls Try.prog G 35 [pstr s] [] (fun res H => res = .list 1 ((bytesB s).map pbyte) ∧ H = []) := RowB.frz (rbytes_r G s hs)
set_option maxRecDepth 100000 in
set_option maxHeartbeats 8000000 in
theorem wints_r (G : Globs) (l : List (Int)) (hv : ∀ n ∈ l, inR n) (hl : (encL intB l).length ≤ 4294967296) (hl2 : l.length ≤ 4294967296) : PCalls Try.prog G 26 [.list 1 (l.map (pint .i64))] [] (RowB (encL intB l)) := by
  (refine PCalls_f Try.func26 rfl Try.ntmps26 Try.results26 (by simp) fun fin hfin => ?_; have hnm : True := trivial; simp (maxSteps := 2000000) (disch := omega) only [evb, evd, pbuiltin, constPV, pnck, seqK, blockK, scopeK, pbin, pun, ppick, plen, piaddr, pindex, pfield, pslice, pbound, pconv, pelems, pextract, pmm, PV.mem?, PV.one, PV.cells, pageq, peqs, peq1, pmakes, pstore, pbytes, pmark, psrc, pkey, pnile, pcap, pgrow, List.set, Value.cells, ↓popG_eq, ↓pop.eq_1, ↓List.getElem?_map, ↓List.getElem?_cons_zero, ↓List.getElem?_cons_succ, Value.oneCell', Nat.reduceAdd, Nat.reduceMul, Nat.reduceSub, Nat.reduceLeDiff, Nat.reduceEqDiff, ↓reduceIte, ne_eq, reduceCtorEq, forall_const, exists_and_left, exists_eq_left', eq_self, Nat.reduceLT, Int.reduceLT, Int.reduceLE, Int.reduceToNat, Int.reduceAdd, Int.reduceSub, Int.reduceNeg, hnm, Try.tf0, Try.tf3, Try.tf5, Try.tf23, Try.tf33, Try.teq79, Try.call43])
  repeat' (first
    | (with_reducible apply W_seq_k; intro nx hnx)
    | (with_reducible first | apply W_block | apply W_scope)
    | (with_reducible refine W_prune 3629 ?_; simp only [prb, Nat.reducePow, Nat.reduceDiv, Nat.reduceMod, Nat.reduceBEq]; with_reducible apply W_region_l)
    | ((first | (with_reducible apply WL_op; intro nx hnx) | with_reducible refine Ev_out ?_ | (with_reducible refine pfresh_k hnm fun nm hnm => ?_; (try simp only [fmb] at hnm)) | (with_reducible refine pborn_mu hnm fun nm hnm => ?_; (try simp only [fmb] at hnm))); try (simp (maxSteps := 2000000) (disch := omega) only [evb, evd, pbuiltin, constPV, pnck, seqK, blockK, scopeK, pbin, pun, ppick, plen, piaddr, pindex, pfield, pslice, pbound, pconv, pelems, pextract, pmm, PV.mem?, PV.one, PV.cells, pageq, peqs, peq1, pmakes, pstore, pbytes, pmark, psrc, pkey, pnile, pcap, pgrow, List.set, Value.cells, ↓popG_eq, ↓pop.eq_1, ↓List.getElem?_map, ↓List.getElem?_cons_zero, ↓List.getElem?_cons_succ, Value.oneCell', Nat.reduceAdd, Nat.reduceMul, Nat.reduceSub, Nat.reduceLeDiff, Nat.reduceEqDiff, ↓reduceIte, ne_eq, reduceCtorEq, forall_const, exists_and_left, exists_eq_left', eq_self, Nat.reduceLT, Int.reduceLT, Int.reduceLE, Int.reduceToNat, Int.reduceAdd, Int.reduceSub, Int.reduceNeg, hnm, Try.tf0, Try.tf3, Try.tf5, Try.tf23, Try.tf33, Try.teq79, Try.call43]); repeat (refine And.intro (by omega) ?_))
    | ((with_reducible first | apply WL_nil | apply W_label | apply W_skip | apply W_exit | apply W_ret); try simp only [seqK, blockK, scopeK, ↓reduceIte, Nat.reduceEqDiff])
    | (with_reducible apply W_cond_k; intro _ _ ea eb; (simp only [condK, cob, opnd, constPV, Nat.reduceEqDiff, Nat.reduceLT, ↓reduceIte, hcb, reduceCtorEq, forall_const, ne_eq]); subst ea eb; first | (refine ⟨fun hc => ?_, fun hc => ?_⟩ <;> first | (exfalso; omega) | (exfalso; exact hc trivial) | skip) | skip)
    | (with_reducible apply hnx; clear hnx nx)
    | (with_reducible refine And.intro (by omega) ?_)
    | (with_reducible refine And.intro ?_ ?_)
    | (clear hnx nx; with_reducible apply hnx; clear hnx nx)
    | (clear hnx nx; clear hnx nx; with_reducible apply hnx; clear hnx nx)
    | (clear hnx nx; clear hnx nx; clear hnx nx; with_reducible apply hnx; clear hnx nx))
  refine pcall_k (wint_r G l.length (by omega) (by omega)) ?_
  rintro _ _ ⟨N0, rfl, rfl⟩ -
  refine Ev_in ?_
  repeat' (first
    | (with_reducible apply W_seq_k; intro nx hnx)
    | (with_reducible first | apply W_block | apply W_scope)
    | (with_reducible refine W_prune 3629 ?_; simp only [prb, Nat.reducePow, Nat.reduceDiv, Nat.reduceMod, Nat.reduceBEq]; with_reducible apply W_region_l)
    | ((first | (with_reducible apply WL_op; intro nx hnx) | with_reducible refine Ev_out ?_ | (with_reducible refine pfresh_k hnm fun nm hnm => ?_; (try simp only [fmb] at hnm)) | (with_reducible refine pborn_mu hnm fun nm hnm => ?_; (try simp only [fmb] at hnm))); try (simp (maxSteps := 2000000) (disch := omega) only [evb, evd, pbuiltin, constPV, pnck, seqK, blockK, scopeK, pbin, pun, ppick, plen, piaddr, pindex, pfield, pslice, pbound, pconv, pelems, pextract, pmm, PV.mem?, PV.one, PV.cells, pageq, peqs, peq1, pmakes, pstore, pbytes, pmark, psrc, pkey, pnile, pcap, pgrow, List.set, Value.cells, ↓popG_eq, ↓pop.eq_1, ↓List.getElem?_map, ↓List.getElem?_cons_zero, ↓List.getElem?_cons_succ, Value.oneCell', Nat.reduceAdd, Nat.reduceMul, Nat.reduceSub, Nat.reduceLeDiff, Nat.reduceEqDiff, ↓reduceIte, ne_eq, reduceCtorEq, forall_const, exists_and_left, exists_eq_left', eq_self, Nat.reduceLT, Int.reduceLT, Int.reduceLE, Int.reduceToNat, Int.reduceAdd, Int.reduceSub, Int.reduceNeg, hnm, Try.tf0, Try.tf3, Try.tf5, Try.tf23, Try.tf33, Try.teq79, Try.call43]); repeat (refine And.intro (by omega) ?_))
    | ((with_reducible first | apply WL_nil | apply W_label | apply W_skip | apply W_exit | apply W_ret); try simp only [seqK, blockK, scopeK, ↓reduceIte, Nat.reduceEqDiff])
    | (with_reducible apply W_cond_k; intro _ _ ea eb; (simp only [condK, cob, opnd, constPV, Nat.reduceEqDiff, Nat.reduceLT, ↓reduceIte, hcb, reduceCtorEq, forall_const, ne_eq]); subst ea eb; first | (refine ⟨fun hc => ?_, fun hc => ?_⟩ <;> first | (exfalso; omega) | (exfalso; exact hc trivial) | skip) | skip)
    | (with_reducible apply hnx; clear hnx nx)
    | (with_reducible refine And.intro (by omega) ?_)
    | (with_reducible refine And.intro ?_ ?_)
    | (clear hnx nx; with_reducible apply hnx; clear hnx nx)
    | (clear hnx nx; clear hnx nx; with_reducible apply hnx; clear hnx nx)
    | (clear hnx nx; clear hnx nx; clear hnx nx; with_reducible apply hnx; clear hnx nx))
  refine W_loop_k (fun z τ => ∃ (i : Nat) (N : Int), i ≤ l.length ∧ z = l.length - i ∧ τ = ⟨fr 21 [(3, .row N 1 (preE intB l i).length), (9, .list 1 (l.map (pint .i64))), (10, pint .i64 l.length), (11, pint .i64 i)], [(N, ⟨5, true, 1, (preE intB l i).map pbyte⟩)]⟩) l.length ⟨fr 21 [(3, .row N0 1 (preE intB l 0).length), (9, .list 1 (l.map (pint .i64))), (10, pint .i64 l.length), (11, pint .i64 (0 : Nat))], [(N0, ⟨5, true, 1, (preE intB l 0).map pbyte⟩)]⟩ (by
    rw [preE_zero]
    exact Wk_fr (by simp only [wkb, Nat.reduceEqDiff, Nat.reduceLT, ↓reduceIte]) ⟨by simp, by simp [names]⟩) ⟨0, N0, by omega, by omega, rfl⟩ ?_
  rintro z τ ⟨i, N, hi', rfl, rfl⟩ lp hlp
  have hle := preE_le intB l (i + 1)
  by_cases hi : i < l.length
  · rw [preE_succ intB l i hi, List.length_append] at hle
    repeat' (first
    | (with_reducible apply W_seq_k; intro nx hnx)
    | (with_reducible first | apply W_block | apply W_scope)
    | (with_reducible refine W_prune 3629 ?_; simp only [prb, Nat.reducePow, Nat.reduceDiv, Nat.reduceMod, Nat.reduceBEq]; with_reducible apply W_region_l)
    | ((first | (with_reducible apply WL_op; intro nx hnx) | with_reducible refine Ev_out ?_ | (with_reducible refine pfresh_k hnm fun nm hnm => ?_; (try simp only [fmb] at hnm)) | (with_reducible refine pborn_mu hnm fun nm hnm => ?_; (try simp only [fmb] at hnm))); try (simp (maxSteps := 2000000) (disch := omega) only [evb, evd, pbuiltin, constPV, pnck, seqK, blockK, scopeK, pbin, pun, ppick, plen, piaddr, pindex, pfield, pslice, pbound, pconv, pelems, pextract, pmm, PV.mem?, PV.one, PV.cells, pageq, peqs, peq1, pmakes, pstore, pbytes, pmark, psrc, pkey, pnile, pcap, pgrow, List.set, Value.cells, ↓popG_eq, ↓pop.eq_1, ↓List.getElem?_map, ↓List.getElem?_cons_zero, ↓List.getElem?_cons_succ, Value.oneCell', Nat.reduceAdd, Nat.reduceMul, Nat.reduceSub, Nat.reduceLeDiff, Nat.reduceEqDiff, ↓reduceIte, ne_eq, reduceCtorEq, forall_const, exists_and_left, exists_eq_left', eq_self, Nat.reduceLT, Int.reduceLT, Int.reduceLE, Int.reduceToNat, Int.reduceAdd, Int.reduceSub, Int.reduceNeg, hnm, Try.tf0, Try.tf3, Try.tf5, Try.tf23, Try.tf33, Try.teq79, Try.call43]); repeat (refine And.intro (by omega) ?_))
    | ((with_reducible first | apply WL_nil | apply W_label | apply W_skip | apply W_exit | apply W_ret); try simp only [seqK, blockK, scopeK, ↓reduceIte, Nat.reduceEqDiff])
    | (with_reducible apply W_cond_k; intro _ _ ea eb; (simp only [condK, cob, opnd, constPV, Nat.reduceEqDiff, Nat.reduceLT, ↓reduceIte, hcb, reduceCtorEq, forall_const, ne_eq]); subst ea eb; first | (refine ⟨fun hc => ?_, fun hc => ?_⟩ <;> first | (exfalso; omega) | (exfalso; exact hc trivial) | skip) | skip)
    | (with_reducible apply hnx; clear hnx nx)
    | (with_reducible refine And.intro (by omega) ?_)
    | (with_reducible refine And.intro ?_ ?_)
    | (clear hnx nx; with_reducible apply hnx; clear hnx nx)
    | (clear hnx nx; clear hnx nx; with_reducible apply hnx; clear hnx nx)
    | (clear hnx nx; clear hnx nx; clear hnx nx; with_reducible apply hnx; clear hnx nx))
    all_goals first
      | (exfalso
         omega)
      | skip
    refine pcall_k (wint_c G l[i] (hv _ (List.getElem_mem hi)).1 (hv _ (List.getElem_mem hi)).2) ?_
    rintro _ _ ⟨rfl, rfl⟩ -
    refine Ev_in ?_
    repeat' (first
    | (with_reducible apply W_seq_k; intro nx hnx)
    | (with_reducible first | apply W_block | apply W_scope)
    | (with_reducible refine W_prune 3629 ?_; simp only [prb, Nat.reducePow, Nat.reduceDiv, Nat.reduceMod, Nat.reduceBEq]; with_reducible apply W_region_l)
    | ((first | (with_reducible apply WL_op; intro nx hnx) | with_reducible refine Ev_out ?_ | (with_reducible refine pfresh_k hnm fun nm hnm => ?_; (try simp only [fmb] at hnm)) | (with_reducible refine pborn_mu hnm fun nm hnm => ?_; (try simp only [fmb] at hnm))); try (simp (maxSteps := 2000000) (disch := omega) only [evb, evd, pbuiltin, constPV, pnck, seqK, blockK, scopeK, pbin, pun, ppick, plen, piaddr, pindex, pfield, pslice, pbound, pconv, pelems, pextract, pmm, PV.mem?, PV.one, PV.cells, pageq, peqs, peq1, pmakes, pstore, pbytes, pmark, psrc, pkey, pnile, pcap, pgrow, List.set, Value.cells, ↓popG_eq, ↓pop.eq_1, ↓List.getElem?_map, ↓List.getElem?_cons_zero, ↓List.getElem?_cons_succ, Value.oneCell', Nat.reduceAdd, Nat.reduceMul, Nat.reduceSub, Nat.reduceLeDiff, Nat.reduceEqDiff, ↓reduceIte, ne_eq, reduceCtorEq, forall_const, exists_and_left, exists_eq_left', eq_self, Nat.reduceLT, Int.reduceLT, Int.reduceLE, Int.reduceToNat, Int.reduceAdd, Int.reduceSub, Int.reduceNeg, hnm, Try.tf0, Try.tf3, Try.tf5, Try.tf23, Try.tf33, Try.teq79, Try.call43, flat_pb]); repeat (refine And.intro (by omega) ?_))
    | ((with_reducible first | apply WL_nil | apply W_label | apply W_skip | apply W_exit | apply W_ret); try simp only [seqK, blockK, scopeK, ↓reduceIte, Nat.reduceEqDiff])
    | (with_reducible apply W_cond_k; intro _ _ ea eb; (simp only [condK, cob, opnd, constPV, Nat.reduceEqDiff, Nat.reduceLT, ↓reduceIte, hcb, reduceCtorEq, forall_const, ne_eq]); subst ea eb; first | (refine ⟨fun hc => ?_, fun hc => ?_⟩ <;> first | (exfalso; omega) | (exfalso; exact hc trivial) | skip) | skip)
    | (with_reducible apply hnx; clear hnx nx)
    | (with_reducible refine And.intro (by omega) ?_)
    | (with_reducible refine And.intro ?_ ?_)
    | (clear hnx nx; with_reducible apply hnx; clear hnx nx)
    | (clear hnx nx; clear hnx nx; with_reducible apply hnx; clear hnx nx)
    | (clear hnx nx; clear hnx nx; clear hnx nx; with_reducible apply hnx; clear hnx nx))
    all_goals first
      | (refine hlp _ (l.length - (i + 1)) _ (by omega) ?_ ⟨i + 1, nm, by omega, rfl, rfl⟩
         rw [preE_succ intB l i hi, List.length_append, List.map_append]
         exact Wk_fr (by simp only [wkb, Nat.reduceEqDiff, Nat.reduceLT, ↓reduceIte]) ⟨by simp, by simp [names]⟩)
  · repeat' (first
    | (with_reducible apply W_seq_k; intro nx hnx)
    | (with_reducible first | apply W_block | apply W_scope)
    | (with_reducible refine W_prune 3629 ?_; simp only [prb, Nat.reducePow, Nat.reduceDiv, Nat.reduceMod, Nat.reduceBEq]; with_reducible apply W_region_l)
    | ((first | (with_reducible apply WL_op; intro nx hnx) | with_reducible refine Ev_out ?_ | (with_reducible refine pfresh_k hnm fun nm hnm => ?_; (try simp only [fmb] at hnm)) | (with_reducible refine pborn_mu hnm fun nm hnm => ?_; (try simp only [fmb] at hnm))); try (simp (maxSteps := 2000000) (disch := omega) only [evb, evd, pbuiltin, constPV, pnck, seqK, blockK, scopeK, pbin, pun, ppick, plen, piaddr, pindex, pfield, pslice, pbound, pconv, pelems, pextract, pmm, PV.mem?, PV.one, PV.cells, pageq, peqs, peq1, pmakes, pstore, pbytes, pmark, psrc, pkey, pnile, pcap, pgrow, List.set, Value.cells, ↓popG_eq, ↓pop.eq_1, ↓List.getElem?_map, ↓List.getElem?_cons_zero, ↓List.getElem?_cons_succ, Value.oneCell', Nat.reduceAdd, Nat.reduceMul, Nat.reduceSub, Nat.reduceLeDiff, Nat.reduceEqDiff, ↓reduceIte, ne_eq, reduceCtorEq, forall_const, exists_and_left, exists_eq_left', eq_self, Nat.reduceLT, Int.reduceLT, Int.reduceLE, Int.reduceToNat, Int.reduceAdd, Int.reduceSub, Int.reduceNeg, hnm, Try.tf0, Try.tf3, Try.tf5, Try.tf23, Try.tf33, Try.teq79, Try.call43]); repeat (refine And.intro (by omega) ?_))
    | ((with_reducible first | apply WL_nil | apply W_label | apply W_skip | apply W_exit | apply W_ret); try simp only [seqK, blockK, scopeK, ↓reduceIte, Nat.reduceEqDiff])
    | (with_reducible apply W_cond_k; intro _ _ ea eb; (simp only [condK, cob, opnd, constPV, Nat.reduceEqDiff, Nat.reduceLT, ↓reduceIte, hcb, reduceCtorEq, forall_const, ne_eq]); subst ea eb; first | (refine ⟨fun hc => ?_, fun hc => ?_⟩ <;> first | (exfalso; omega) | (exfalso; exact hc trivial) | skip) | skip)
    | (with_reducible apply hnx; clear hnx nx)
    | (with_reducible refine And.intro (by omega) ?_)
    | (with_reducible refine And.intro ?_ ?_)
    | (clear hnx nx; with_reducible apply hnx; clear hnx nx)
    | (clear hnx nx; clear hnx nx; with_reducible apply hnx; clear hnx nx)
    | (clear hnx nx; clear hnx nx; clear hnx nx; with_reducible apply hnx; clear hnx nx))
    all_goals first
      | (exfalso
         omega)
      | (refine hfin _ _ (Fin_ret1 rfl (Sub_refl (by simp [names])) ?_); simp only [List.getD_cons_zero, List.getD_cons_succ, fr_getD_cons, fr_getD_nil, Nat.reduceEqDiff, Nat.reduceLT, ↓reduceIte]
         rw [preE_all intB l i (by omega)]
         exact ⟨N, rfl, rfl⟩)
theorem wints_c (G : Globs) (l : List (Int)) (hv : ∀ n ∈ l, inR n) (hl : (encL intB l).length ≤ 4294967296) (hl2 : l.length ≤ 4294967296) : PCalls Try.prog G 26 [.list 1 (l.map (pint .i64))] [] (fun res H => res = .list 1 ((encL intB l).map pbyte) ∧ H = []) := RowB.frz (wints_r G l hv hl hl2)
set_option maxRecDepth 100000 in
set_option maxHeartbeats 8000000 in
theorem rints_r (G : Globs) (l : List (Int)) (hv : ∀ n ∈ l, inR n) (hl : (encL intB l).length ≤ 4294967296) (hl2 : l.length ≤ 4294967296) : PCalls Try.prog G 34 [.list 1 (l.map (pint .i64))] [] (RowB (encL intB l)) := by
  (refine PCalls_f Try.func34 rfl Try.ntmps34 Try.results34 (by simp) fun fin hfin => ?_; have hnm : True := trivial; simp (maxSteps := 2000000) (disch := omega) only [evb, evd, pbuiltin, constPV, pnck, seqK, blockK, scopeK, pbin, pun, ppick, plen, piaddr, pindex, pfield, pslice, pbound, pconv, pelems, pextract, pmm, PV.mem?, PV.one, PV.cells, pageq, peqs, peq1, pmakes, pstore, pbytes, pmark, psrc, pkey, pnile, pcap, pgrow, List.set, Value.cells, ↓popG_eq, ↓pop.eq_1, ↓List.getElem?_map, ↓List.getElem?_cons_zero, ↓List.getElem?_cons_succ, Value.oneCell', Nat.reduceAdd, Nat.reduceMul, Nat.reduceSub, Nat.reduceLeDiff, Nat.reduceEqDiff, ↓reduceIte, ne_eq, reduceCtorEq, forall_const, exists_and_left, exists_eq_left', eq_self, Nat.reduceLT, Int.reduceLT, Int.reduceLE, Int.reduceToNat, Int.reduceAdd, Int.reduceSub, Int.reduceNeg, hnm, Try.tf0, Try.tf3, Try.tf4, Try.tf5, Try.tf23, Try.tf33, Try.teq79, Try.call45])
  repeat' (first
    | (with_reducible apply W_seq_k; intro nx hnx)
    | (with_reducible first | apply W_block | apply W_scope)
    | (with_reducible refine W_prune 29 ?_; simp only [prb, Nat.reducePow, Nat.reduceDiv, Nat.reduceMod, Nat.reduceBEq]; with_reducible apply W_region_l)
    | ((first | (with_reducible apply WL_op; intro nx hnx) | with_reducible refine Ev_out ?_ | (with_reducible refine pfresh_k hnm fun nm hnm => ?_; (try simp only [fmb] at hnm)) | (with_reducible refine pborn_mu hnm fun nm hnm => ?_; (try simp only [fmb] at hnm))); try (simp (maxSteps := 2000000) (disch := omega) only [evb, evd, pbuiltin, constPV, pnck, seqK, blockK, scopeK, pbin, pun, ppick, plen, piaddr, pindex, pfield, pslice, pbound, pconv, pelems, pextract, pmm, PV.mem?, PV.one, PV.cells, pageq, peqs, peq1, pmakes, pstore, pbytes, pmark, psrc, pkey, pnile, pcap, pgrow, List.set, Value.cells, ↓popG_eq, ↓pop.eq_1, ↓List.getElem?_map, ↓List.getElem?_cons_zero, ↓List.getElem?_cons_succ, Value.oneCell', Nat.reduceAdd, Nat.reduceMul, Nat.reduceSub, Nat.reduceLeDiff, Nat.reduceEqDiff, ↓reduceIte, ne_eq, reduceCtorEq, forall_const, exists_and_left, exists_eq_left', eq_self, Nat.reduceLT, Int.reduceLT, Int.reduceLE, Int.reduceToNat, Int.reduceAdd, Int.reduceSub, Int.reduceNeg, hnm, Try.tf0, Try.tf3, Try.tf4, Try.tf5, Try.tf23, Try.tf33, Try.teq79, Try.call45]); repeat (refine And.intro (by omega) ?_))
    | ((with_reducible first | apply WL_nil | apply W_label | apply W_skip | apply W_exit | apply W_ret); try simp only [seqK, blockK, scopeK, ↓reduceIte, Nat.reduceEqDiff])
    | (with_reducible apply W_cond_k; intro _ _ ea eb; (simp only [condK, cob, opnd, constPV, Nat.reduceEqDiff, Nat.reduceLT, ↓reduceIte, hcb, reduceCtorEq, forall_const, ne_eq]); subst ea eb; first | (refine ⟨fun hc => ?_, fun hc => ?_⟩ <;> first | (exfalso; omega) | (exfalso; exact hc trivial) | skip) | skip)
    | (with_reducible apply hnx; clear hnx nx)
    | (with_reducible refine And.intro (by omega) ?_)
    | (with_reducible refine And.intro ?_ ?_)
    | (clear hnx nx; with_reducible apply hnx; clear hnx nx)
    | (clear hnx nx; clear hnx nx; with_reducible apply hnx; clear hnx nx)
    | (clear hnx nx; clear hnx nx; clear hnx nx; with_reducible apply hnx; clear hnx nx))
  refine pcall_k (rint_r G l.length (by omega) (by omega)) ?_
  rintro _ _ ⟨N0, rfl, rfl⟩ -
  refine Ev_in ?_
  repeat' (first
    | (with_reducible apply W_seq_k; intro nx hnx)
    | (with_reducible first | apply W_block | apply W_scope)
    | (with_reducible refine W_prune 29 ?_; simp only [prb, Nat.reducePow, Nat.reduceDiv, Nat.reduceMod, Nat.reduceBEq]; with_reducible apply W_region_l)
    | ((first | (with_reducible apply WL_op; intro nx hnx) | with_reducible refine Ev_out ?_ | (with_reducible refine pfresh_k hnm fun nm hnm => ?_; (try simp only [fmb] at hnm)) | (with_reducible refine pborn_mu hnm fun nm hnm => ?_; (try simp only [fmb] at hnm))); try (simp (maxSteps := 2000000) (disch := omega) only [evb, evd, pbuiltin, constPV, pnck, seqK, blockK, scopeK, pbin, pun, ppick, plen, piaddr, pindex, pfield, pslice, pbound, pconv, pelems, pextract, pmm, PV.mem?, PV.one, PV.cells, pageq, peqs, peq1, pmakes, pstore, pbytes, pmark, psrc, pkey, pnile, pcap, pgrow, List.set, Value.cells, ↓popG_eq, ↓pop.eq_1, ↓List.getElem?_map, ↓List.getElem?_cons_zero, ↓List.getElem?_cons_succ, Value.oneCell', Nat.reduceAdd, Nat.reduceMul, Nat.reduceSub, Nat.reduceLeDiff, Nat.reduceEqDiff, ↓reduceIte, ne_eq, reduceCtorEq, forall_const, exists_and_left, exists_eq_left', eq_self, Nat.reduceLT, Int.reduceLT, Int.reduceLE, Int.reduceToNat, Int.reduceAdd, Int.reduceSub, Int.reduceNeg, hnm, Try.tf0, Try.tf3, Try.tf4, Try.tf5, Try.tf23, Try.tf33, Try.teq79, Try.call45]); repeat (refine And.intro (by omega) ?_))
    | ((with_reducible first | apply WL_nil | apply W_label | apply W_skip | apply W_exit | apply W_ret); try simp only [seqK, blockK, scopeK, ↓reduceIte, Nat.reduceEqDiff])
    | (with_reducible apply W_cond_k; intro _ _ ea eb; (simp only [condK, cob, opnd, constPV, Nat.reduceEqDiff, Nat.reduceLT, ↓reduceIte, hcb, reduceCtorEq, forall_const, ne_eq]); subst ea eb; first | (refine ⟨fun hc => ?_, fun hc => ?_⟩ <;> first | (exfalso; omega) | (exfalso; exact hc trivial) | skip) | skip)
    | (with_reducible apply hnx; clear hnx nx)
    | (with_reducible refine And.intro (by omega) ?_)
    | (with_reducible refine And.intro ?_ ?_)
    | (clear hnx nx; with_reducible apply hnx; clear hnx nx)
    | (clear hnx nx; clear hnx nx; with_reducible apply hnx; clear hnx nx)
    | (clear hnx nx; clear hnx nx; clear hnx nx; with_reducible apply hnx; clear hnx nx))
  refine W_loop_k (fun z τ => ∃ (i : Nat) (N : Int), i ≤ l.length ∧ z = l.length - i ∧ τ = ⟨fr 22 [(3, .row N 1 (preE intB l i).length), (0, .list 1 (l.map (pint .i64))), (4, pint .i64 i)], [(N, ⟨5, true, 1, (preE intB l i).map pbyte⟩)]⟩) l.length ⟨fr 22 [(3, .row N0 1 (preE intB l 0).length), (0, .list 1 (l.map (pint .i64))), (4, pint .i64 (0 : Nat))], [(N0, ⟨5, true, 1, (preE intB l 0).map pbyte⟩)]⟩ (by
    rw [preE_zero]
    exact Wk_fr (by simp only [wkb, Nat.reduceEqDiff, Nat.reduceLT, ↓reduceIte]) ⟨by simp, by simp [names]⟩) ⟨0, N0, by omega, by omega, rfl⟩ ?_
  rintro z τ ⟨i, N, hi', rfl, rfl⟩ lp hlp
  have hle := preE_le intB l (i + 1)
  by_cases hi : i < l.length
  · rw [preE_succ intB l i hi, List.length_append] at hle
    repeat' (first
    | (with_reducible apply W_seq_k; intro nx hnx)
    | (with_reducible first | apply W_block | apply W_scope)
    | (with_reducible refine W_prune 29 ?_; simp only [prb, Nat.reducePow, Nat.reduceDiv, Nat.reduceMod, Nat.reduceBEq]; with_reducible apply W_region_l)
    | ((first | (with_reducible apply WL_op; intro nx hnx) | with_reducible refine Ev_out ?_ | (with_reducible refine pfresh_k hnm fun nm hnm => ?_; (try simp only [fmb] at hnm)) | (with_reducible refine pborn_mu hnm fun nm hnm => ?_; (try simp only [fmb] at hnm))); try (simp (maxSteps := 2000000) (disch := omega) only [evb, evd, pbuiltin, constPV, pnck, seqK, blockK, scopeK, pbin, pun, ppick, plen, piaddr, pindex, pfield, pslice, pbound, pconv, pelems, pextract, pmm, PV.mem?, PV.one, PV.cells, pageq, peqs, peq1, pmakes, pstore, pbytes, pmark, psrc, pkey, pnile, pcap, pgrow, List.set, Value.cells, ↓popG_eq, ↓pop.eq_1, ↓List.getElem?_map, ↓List.getElem?_cons_zero, ↓List.getElem?_cons_succ, Value.oneCell', Nat.reduceAdd, Nat.reduceMul, Nat.reduceSub, Nat.reduceLeDiff, Nat.reduceEqDiff, ↓reduceIte, ne_eq, reduceCtorEq, forall_const, exists_and_left, exists_eq_left', eq_self, Nat.reduceLT, Int.reduceLT, Int.reduceLE, Int.reduceToNat, Int.reduceAdd, Int.reduceSub, Int.reduceNeg, hnm, Try.tf0, Try.tf3, Try.tf4, Try.tf5, Try.tf23, Try.tf33, Try.teq79, Try.call45]); repeat (refine And.intro (by omega) ?_))
    | ((with_reducible first | apply WL_nil | apply W_label | apply W_skip | apply W_exit | apply W_ret); try simp only [seqK, blockK, scopeK, ↓reduceIte, Nat.reduceEqDiff])
    | (with_reducible apply W_cond_k; intro _ _ ea eb; (simp only [condK, cob, opnd, constPV, Nat.reduceEqDiff, Nat.reduceLT, ↓reduceIte, hcb, reduceCtorEq, forall_const, ne_eq]); subst ea eb; first | (refine ⟨fun hc => ?_, fun hc => ?_⟩ <;> first | (exfalso; omega) | (exfalso; exact hc trivial) | skip) | skip)
    | (with_reducible apply hnx; clear hnx nx)
    | (with_reducible refine And.intro (by omega) ?_)
    | (with_reducible refine And.intro ?_ ?_)
    | (clear hnx nx; with_reducible apply hnx; clear hnx nx)
    | (clear hnx nx; clear hnx nx; with_reducible apply hnx; clear hnx nx)
    | (clear hnx nx; clear hnx nx; clear hnx nx; with_reducible apply hnx; clear hnx nx))
    all_goals first
      | (exfalso
         omega)
      | skip
    refine pcall_k (rint_c G l[i] (hv _ (List.getElem_mem hi)).1 (hv _ (List.getElem_mem hi)).2) ?_
    rintro _ _ ⟨rfl, rfl⟩ -
    refine Ev_in ?_
    repeat' (first
    | (with_reducible apply W_seq_k; intro nx hnx)
    | (with_reducible first | apply W_block | apply W_scope)
    | (with_reducible refine W_prune 29 ?_; simp only [prb, Nat.reducePow, Nat.reduceDiv, Nat.reduceMod, Nat.reduceBEq]; with_reducible apply W_region_l)
    | ((first | (with_reducible apply WL_op; intro nx hnx) | with_reducible refine Ev_out ?_ | (with_reducible refine pfresh_k hnm fun nm hnm => ?_; (try simp only [fmb] at hnm)) | (with_reducible refine pborn_mu hnm fun nm hnm => ?_; (try simp only [fmb] at hnm))); try (simp (maxSteps := 2000000) (disch := omega) only [evb, evd, pbuiltin, constPV, pnck, seqK, blockK, scopeK, pbin, pun, ppick, plen, piaddr, pindex, pfield, pslice, pbound, pconv, pelems, pextract, pmm, PV.mem?, PV.one, PV.cells, pageq, peqs, peq1, pmakes, pstore, pbytes, pmark, psrc, pkey, pnile, pcap, pgrow, List.set, Value.cells, ↓popG_eq, ↓pop.eq_1, ↓List.getElem?_map, ↓List.getElem?_cons_zero, ↓List.getElem?_cons_succ, Value.oneCell', Nat.reduceAdd, Nat.reduceMul, Nat.reduceSub, Nat.reduceLeDiff, Nat.reduceEqDiff, ↓reduceIte, ne_eq, reduceCtorEq, forall_const, exists_and_left, exists_eq_left', eq_self, Nat.reduceLT, Int.reduceLT, Int.reduceLE, Int.reduceToNat, Int.reduceAdd, Int.reduceSub, Int.reduceNeg, hnm, Try.tf0, Try.tf3, Try.tf4, Try.tf5, Try.tf23, Try.tf33, Try.teq79, Try.call45, flat_pb]); repeat (refine And.intro (by omega) ?_))
    | ((with_reducible first | apply WL_nil | apply W_label | apply W_skip | apply W_exit | apply W_ret); try simp only [seqK, blockK, scopeK, ↓reduceIte, Nat.reduceEqDiff])
    | (with_reducible apply W_cond_k; intro _ _ ea eb; (simp only [condK, cob, opnd, constPV, Nat.reduceEqDiff, Nat.reduceLT, ↓reduceIte, hcb, reduceCtorEq, forall_const, ne_eq]); subst ea eb; first | (refine ⟨fun hc => ?_, fun hc => ?_⟩ <;> first | (exfalso; omega) | (exfalso; exact hc trivial) | skip) | skip)
    | (with_reducible apply hnx; clear hnx nx)
    | (with_reducible refine And.intro (by omega) ?_)
    | (with_reducible refine And.intro ?_ ?_)
    | (clear hnx nx; with_reducible apply hnx; clear hnx nx)
    | (clear hnx nx; clear hnx nx; with_reducible apply hnx; clear hnx nx)
    | (clear hnx nx; clear hnx nx; clear hnx nx; with_reducible apply hnx; clear hnx nx))
    all_goals first
      | (refine hlp _ (l.length - (i + 1)) _ (by omega) ?_ ⟨i + 1, nm, by omega, rfl, rfl⟩
         rw [preE_succ intB l i hi, List.length_append, List.map_append]
         exact Wk_fr (by simp only [wkb, Nat.reduceEqDiff, Nat.reduceLT, ↓reduceIte]) ⟨by simp, by simp [names]⟩)
  · repeat' (first
    | (with_reducible apply W_seq_k; intro nx hnx)
    | (with_reducible first | apply W_block | apply W_scope)
    | (with_reducible refine W_prune 29 ?_; simp only [prb, Nat.reducePow, Nat.reduceDiv, Nat.reduceMod, Nat.reduceBEq]; with_reducible apply W_region_l)
    | ((first | (with_reducible apply WL_op; intro nx hnx) | with_reducible refine Ev_out ?_ | (with_reducible refine pfresh_k hnm fun nm hnm => ?_; (try simp only [fmb] at hnm)) | (with_reducible refine pborn_mu hnm fun nm hnm => ?_; (try simp only [fmb] at hnm))); try (simp (maxSteps := 2000000) (disch := omega) only [evb, evd, pbuiltin, constPV, pnck, seqK, blockK, scopeK, pbin, pun, ppick, plen, piaddr, pindex, pfield, pslice, pbound, pconv, pelems, pextract, pmm, PV.mem?, PV.one, PV.cells, pageq, peqs, peq1, pmakes, pstore, pbytes, pmark, psrc, pkey, pnile, pcap, pgrow, List.set, Value.cells, ↓popG_eq, ↓pop.eq_1, ↓List.getElem?_map, ↓List.getElem?_cons_zero, ↓List.getElem?_cons_succ, Value.oneCell', Nat.reduceAdd, Nat.reduceMul, Nat.reduceSub, Nat.reduceLeDiff, Nat.reduceEqDiff, ↓reduceIte, ne_eq, reduceCtorEq, forall_const, exists_and_left, exists_eq_left', eq_self, Nat.reduceLT, Int.reduceLT, Int.reduceLE, Int.reduceToNat, Int.reduceAdd, Int.reduceSub, Int.reduceNeg, hnm, Try.tf0, Try.tf3, Try.tf4, Try.tf5, Try.tf23, Try.tf33, Try.teq79, Try.call45]); repeat (refine And.intro (by omega) ?_))
    | ((with_reducible first | apply WL_nil | apply W_label | apply W_skip | apply W_exit | apply W_ret); try simp only [seqK, blockK, scopeK, ↓reduceIte, Nat.reduceEqDiff])
    | (with_reducible apply W_cond_k; intro _ _ ea eb; (simp only [condK, cob, opnd, constPV, Nat.reduceEqDiff, Nat.reduceLT, ↓reduceIte, hcb, reduceCtorEq, forall_const, ne_eq]); subst ea eb; first | (refine ⟨fun hc => ?_, fun hc => ?_⟩ <;> first | (exfalso; omega) | (exfalso; exact hc trivial) | skip) | skip)
    | (with_reducible apply hnx; clear hnx nx)
    | (with_reducible refine And.intro (by omega) ?_)
    | (with_reducible refine And.intro ?_ ?_)
    | (clear hnx nx; with_reducible apply hnx; clear hnx nx)
    | (clear hnx nx; clear hnx nx; with_reducible apply hnx; clear hnx nx)
    | (clear hnx nx; clear hnx nx; clear hnx nx; with_reducible apply hnx; clear hnx nx))
    all_goals first
      | (exfalso
         omega)
      | (refine hfin _ _ (Fin_ret1 rfl (Sub_refl (by simp [names])) ?_); simp only [List.getD_cons_zero, List.getD_cons_succ, fr_getD_cons, fr_getD_nil, Nat.reduceEqDiff, Nat.reduceLT, ↓reduceIte]
         rw [preE_all intB l i (by omega)]
         exact ⟨N, rfl, rfl⟩)
end Go.PM

namespace Go.PM
open Go.Proofs
attribute [local irreducible] W PCalls pcall pcallI WL
theorem q_low (m j : Nat) : IntKind.u8.wrap (((m / 256 ^ j : Nat) : Int).tmod 256) = ((m / 256 ^ j % 256 : Nat) : Int) := by
  generalize m / 256 ^ j = y
  rw [Int.tmod_eq_emod_of_nonneg (Int.natCast_nonneg _)]
  rw [show (y : Int) % 256 = ((y % 256 : Nat) : Int) by omega, wr8mod]
  omega
theorem le1_pb (h : UInt64) (j : Nat) : pint .u8 ((h.toNat / 256 ^ j % 256 : Nat) : Int) = pbyte (le1 h j) := by
  have h2 : (UInt8.ofNat (h.toNat / 256 ^ j % 256)).toNat = h.toNat / 256 ^ j % 256 := UInt8.toNat_ofNat_of_lt' (Nat.mod_lt _ (by decide))
  show pint .u8 _ = pint .u8 ((le1 h j).toNat : Int)
  rw [le1, h2]
theorem q_next (m j : Nat) (hm : m < 18446744073709551616) : IntKind.u64.wrap (((m / 256 ^ j : Nat) : Int).tdiv 256) = ((m / 256 ^ (j + 1) : Nat) : Int) := by
  have h1 : m / 256 ^ j ≤ m := Nat.div_le_self _ _
  rw [Int.tdiv_eq_ediv_of_nonneg (Int.natCast_nonneg _), wrap_q]
  rw [Nat.pow_succ, ← Nat.div_div_eq_div_mul]
  generalize m / 256 ^ j = y at *
  omega
theorem le8_take (h : UInt64) (j : Nat) (hj : j < 8) : (le8 h).take (j + 1) = (le8 h).take j ++ [le1 h j] := by
  have : (le8 h)[j]? = some (le1 h j) := by simp [le8, hj]
  rw [List.take_add_one, this]
  rfl
set_option maxRecDepth 100000 in
set_option maxHeartbeats 8000000 in
theorem rseal_r (G : Globs) (key : UInt64) (b : List UInt8) (hb : b.length ≤ 4294967296) : PCalls Try.prog G 17 [pq key, .list 1 (b.map pbyte)] [] (RowB (b ++ sealB key b)) := by
  have h0 := q_first key
  (refine PCalls_f Try.func17 rfl Try.ntmps17 Try.results17 (by simp) fun fin hfin => ?_; have hnm : True := trivial; simp (maxSteps := 2000000) (disch := omega) only [evb, evd, pbuiltin, constPV, pnck, seqK, blockK, scopeK, pbin, pun, ppick, plen, piaddr, pindex, pfield, pslice, pbound, pconv, pelems, pextract, pmm, PV.mem?, PV.one, PV.cells, pageq, peqs, peq1, pmakes, pstore, pbytes, pmark, psrc, pkey, pnile, pcap, pgrow, List.set, Value.cells, ↓popG_eq, ↓pop.eq_1, ↓List.getElem?_map, ↓List.getElem?_cons_zero, ↓List.getElem?_cons_succ, Value.oneCell', Nat.reduceAdd, Nat.reduceMul, Nat.reduceSub, Nat.reduceLeDiff, Nat.reduceEqDiff, ↓reduceIte, ne_eq, reduceCtorEq, forall_const, exists_and_left, exists_eq_left', eq_self, Nat.reduceLT, Int.reduceLT, Int.reduceLE, Int.reduceToNat, Int.reduceAdd, Int.reduceSub, Int.reduceNeg, hnm, Try.tf0, Try.tf1, Try.tf3, Try.tf4, Try.tf5, Try.tf22, Try.tf33, Try.teq79])
  repeat' (first
    | (with_reducible apply W_seq_k; intro nx hnx)
    | (with_reducible first | apply W_block | apply W_scope)
    | (with_reducible refine W_prune 499 ?_; simp only [prb, Nat.reducePow, Nat.reduceDiv, Nat.reduceMod, Nat.reduceBEq]; with_reducible apply W_region_l)
    | ((first | (with_reducible apply WL_op; intro nx hnx) | with_reducible refine Ev_out ?_ | (with_reducible refine pfresh_k hnm fun nm hnm => ?_; (try simp only [fmb] at hnm)) | (with_reducible refine pborn_mu hnm fun nm hnm => ?_; (try simp only [fmb] at hnm))); try (simp (maxSteps := 2000000) (disch := omega) only [evb, evd, pbuiltin, constPV, pnck, seqK, blockK, scopeK, pbin, pun, ppick, plen, piaddr, pindex, pfield, pslice, pbound, pconv, pelems, pextract, pmm, PV.mem?, PV.one, PV.cells, pageq, peqs, peq1, pmakes, pstore, pbytes, pmark, psrc, pkey, pnile, pcap, pgrow, List.set, Value.cells, ↓popG_eq, ↓pop.eq_1, ↓List.getElem?_map, ↓List.getElem?_cons_zero, ↓List.getElem?_cons_succ, Value.oneCell', Nat.reduceAdd, Nat.reduceMul, Nat.reduceSub, Nat.reduceLeDiff, Nat.reduceEqDiff, ↓reduceIte, ne_eq, reduceCtorEq, forall_const, exists_and_left, exists_eq_left', eq_self, Nat.reduceLT, Int.reduceLT, Int.reduceLE, Int.reduceToNat, Int.reduceAdd, Int.reduceSub, Int.reduceNeg, hnm, Try.tf0, Try.tf1, Try.tf3, Try.tf4, Try.tf5, Try.tf22, Try.tf33, Try.teq79, h0]); repeat (refine And.intro (by omega) ?_))
    | ((with_reducible first | apply WL_nil | apply W_label | apply W_skip | apply W_exit | apply W_ret); try simp only [seqK, blockK, scopeK, ↓reduceIte, Nat.reduceEqDiff])
    | (with_reducible apply W_cond_k; intro _ _ ea eb; (simp only [condK, cob, opnd, constPV, Nat.reduceEqDiff, Nat.reduceLT, ↓reduceIte, hcb, reduceCtorEq, forall_const, ne_eq]); subst ea eb; first | (refine ⟨fun hc => ?_, fun hc => ?_⟩ <;> first | (exfalso; omega) | (exfalso; exact hc trivial) | skip) | skip)
    | (with_reducible apply hnx; clear hnx nx)
    | (with_reducible refine And.intro (by omega) ?_)
    | (with_reducible refine And.intro ?_ ?_)
    | (clear hnx nx; with_reducible apply hnx; clear hnx nx)
    | (clear hnx nx; clear hnx nx; with_reducible apply hnx; clear hnx nx)
    | (clear hnx nx; clear hnx nx; clear hnx nx; with_reducible apply hnx; clear hnx nx))
  refine W_loop_k (fun z τ => ∃ (i : Nat), i ≤ b.length ∧ z = b.length - i ∧ τ = ⟨fr 41 [(1, .list 1 (b.map pbyte)), (6, pint .i64 i), (5, pq (fnv key (b.take i)))], []⟩) b.length
    ⟨fr 41 [(1, .list 1 (b.map pbyte)), (6, pint .i64 (0 : Nat)), (5, pq (fnv0 key))], []⟩ (by
    refine Wk_fr (by simp only [wkb, Nat.reduceEqDiff, Nat.reduceLT, ↓reduceIte]) ?_
    exact ⟨by simp, by simp [names]⟩) ⟨0, by omega, by omega, rfl⟩ ?_
  rintro z τ ⟨i, hi, rfl, rfl⟩ lp hlp
  by_cases hik : i < b.length
  · have hs := q_step (fnv key (b.take i)) b[i]
    rw [← fnv_take key b i hik] at hs
    repeat' (first
    | (with_reducible apply W_seq_k; intro nx hnx)
    | (with_reducible first | apply W_block | apply W_scope)
    | (with_reducible refine W_prune 499 ?_; simp only [prb, Nat.reducePow, Nat.reduceDiv, Nat.reduceMod, Nat.reduceBEq]; with_reducible apply W_region_l)
    | ((first | (with_reducible apply WL_op; intro nx hnx) | with_reducible refine Ev_out ?_ | (with_reducible refine pfresh_k hnm fun nm hnm => ?_; (try simp only [fmb] at hnm)) | (with_reducible refine pborn_mu hnm fun nm hnm => ?_; (try simp only [fmb] at hnm))); try (simp (maxSteps := 2000000) (disch := omega) only [evb, evd, pbuiltin, constPV, pnck, seqK, blockK, scopeK, pbin, pun, ppick, plen, piaddr, pindex, pfield, pslice, pbound, pconv, pelems, pextract, pmm, PV.mem?, PV.one, PV.cells, pageq, peqs, peq1, pmakes, pstore, pbytes, pmark, psrc, pkey, pnile, pcap, pgrow, List.set, Value.cells, ↓popG_eq, ↓pop.eq_1, ↓List.getElem?_map, ↓List.getElem?_cons_zero, ↓List.getElem?_cons_succ, Value.oneCell', Nat.reduceAdd, Nat.reduceMul, Nat.reduceSub, Nat.reduceLeDiff, Nat.reduceEqDiff, ↓reduceIte, ne_eq, reduceCtorEq, forall_const, exists_and_left, exists_eq_left', eq_self, Nat.reduceLT, Int.reduceLT, Int.reduceLE, Int.reduceToNat, Int.reduceAdd, Int.reduceSub, Int.reduceNeg, hnm, Try.tf0, Try.tf1, Try.tf3, Try.tf4, Try.tf5, Try.tf22, Try.tf33, Try.teq79, hs]); repeat (refine And.intro (by omega) ?_))
    | ((with_reducible first | apply WL_nil | apply W_label | apply W_skip | apply W_exit | apply W_ret); try simp only [seqK, blockK, scopeK, ↓reduceIte, Nat.reduceEqDiff])
    | (with_reducible apply W_cond_k; intro _ _ ea eb; (simp only [condK, cob, opnd, constPV, Nat.reduceEqDiff, Nat.reduceLT, ↓reduceIte, hcb, reduceCtorEq, forall_const, ne_eq]); subst ea eb; first | (refine ⟨fun hc => ?_, fun hc => ?_⟩ <;> first | (exfalso; omega) | (exfalso; exact hc trivial) | skip) | skip)
    | (with_reducible apply hnx; clear hnx nx)
    | (with_reducible refine And.intro (by omega) ?_)
    | (with_reducible refine And.intro ?_ ?_)
    | (clear hnx nx; with_reducible apply hnx; clear hnx nx)
    | (clear hnx nx; clear hnx nx; with_reducible apply hnx; clear hnx nx)
    | (clear hnx nx; clear hnx nx; clear hnx nx; with_reducible apply hnx; clear hnx nx))
    all_goals first
      | (exfalso
         omega)
      | (refine hlp _ (b.length - (i + 1)) _ (by omega) ?_ ⟨i + 1, by omega, rfl, rfl⟩
         refine Wk_fr (by simp only [wkb, Nat.reduceEqDiff, Nat.reduceLT, ↓reduceIte]) ?_
         exact ⟨by simp, by simp [names]⟩)
  · rw [List.take_of_length_le (by omega)]
    obtain ⟨h, hh⟩ : ∃ h, h = fnv key b := ⟨_, rfl⟩
    have hS : sealB key b = le8 h := by rw [sealB, hh]
    rw [hS] at hfin
    rw [← hh]
    clear hlp h0 hh hS
    repeat' (first
    | (with_reducible apply W_seq_k; intro nx hnx)
    | (with_reducible first | apply W_block | apply W_scope)
    | (with_reducible refine W_prune 499 ?_; simp only [prb, Nat.reducePow, Nat.reduceDiv, Nat.reduceMod, Nat.reduceBEq]; with_reducible apply W_region_l)
    | ((first | (with_reducible apply WL_op; intro nx hnx) | with_reducible refine Ev_out ?_ | (with_reducible refine pfresh_k hnm fun nm hnm => ?_; (try simp only [fmb] at hnm)) | (with_reducible refine pborn_mu hnm fun nm hnm => ?_; (try simp only [fmb] at hnm))); try (simp (maxSteps := 2000000) (disch := omega) only [evb, evd, pbuiltin, constPV, pnck, seqK, blockK, scopeK, pbin, pun, ppick, plen, piaddr, pindex, pfield, pslice, pbound, pconv, pelems, pextract, pmm, PV.mem?, PV.one, PV.cells, pageq, peqs, peq1, pmakes, pstore, pbytes, pmark, psrc, pkey, pnile, pcap, pgrow, List.set, Value.cells, ↓popG_eq, ↓pop.eq_1, ↓List.getElem?_map, ↓List.getElem?_cons_zero, ↓List.getElem?_cons_succ, Value.oneCell', Nat.reduceAdd, Nat.reduceMul, Nat.reduceSub, Nat.reduceLeDiff, Nat.reduceEqDiff, ↓reduceIte, ne_eq, reduceCtorEq, forall_const, exists_and_left, exists_eq_left', eq_self, Nat.reduceLT, Int.reduceLT, Int.reduceLE, Int.reduceToNat, Int.reduceAdd, Int.reduceSub, Int.reduceNeg, hnm, Try.tf0, Try.tf1, Try.tf3, Try.tf4, Try.tf5, Try.tf22, Try.tf33, Try.teq79, flat_pb]); repeat (refine And.intro (by omega) ?_))
    | ((with_reducible first | apply WL_nil | apply W_label | apply W_skip | apply W_exit | apply W_ret); try simp only [seqK, blockK, scopeK, ↓reduceIte, Nat.reduceEqDiff])
    | (with_reducible apply W_cond_k; intro _ _ ea eb; (simp only [condK, cob, opnd, constPV, Nat.reduceEqDiff, Nat.reduceLT, ↓reduceIte, hcb, reduceCtorEq, forall_const, ne_eq]); subst ea eb; first | (refine ⟨fun hc => ?_, fun hc => ?_⟩ <;> first | (exfalso; omega) | (exfalso; exact hc trivial) | skip) | skip)
    | (with_reducible apply hnx; clear hnx nx)
    | (with_reducible refine And.intro (by omega) ?_)
    | (with_reducible refine And.intro ?_ ?_)
    | (clear hnx nx; with_reducible apply hnx; clear hnx nx)
    | (clear hnx nx; clear hnx nx; with_reducible apply hnx; clear hnx nx)
    | (clear hnx nx; clear hnx nx; clear hnx nx; with_reducible apply hnx; clear hnx nx))
    all_goals first
      | (exfalso
         omega)
      | skip
    obtain ⟨N, hN⟩ : ∃ N, N = nm := ⟨_, rfl⟩
    subst hN
    clear hnm
    have hnm : True := trivial
    have e0 : (h.toNat : Int) = ((h.toNat / 256 ^ 0 : Nat) : Int) := by simp
    refine W_loop_k (fun z τ => ∃ (j : Nat) (N : Int) (o : List UInt8), j ≤ 8 ∧ z = 8 - j ∧ o = b ++ (le8 h).take j ∧ τ = ⟨fr 41 [(7, .row N 1 o.length), (5, pint .u64 ((h.toNat / 256 ^ j : Nat) : Int)), (8, pint .i64 j)], [(N, ⟨5, true, 1, o.map pbyte⟩)]⟩) 8
      ⟨fr 41 [(7, .row N 1 b.length), (5, pint .u64 ((h.toNat / 256 ^ 0 : Nat) : Int)), (8, pint .i64 (0 : Nat))], [(N, ⟨5, true, 1, b.map pbyte⟩)]⟩ (by
      rw [← e0]
      refine Wk_fr (by simp only [wkb, Nat.reduceEqDiff, Nat.reduceLT, ↓reduceIte]) ?_
      exact ⟨by simp, by simp [names]⟩) ⟨0, N, b, by omega, by omega, by simp, rfl⟩ ?_
    rintro z τ ⟨j, M, o, hj, rfl, ho, rfl⟩ lp hlp
    have hol : o.length ≤ b.length + 8 := by rw [ho, List.length_append, List.length_take, le8_len]; omega
    by_cases hjk : j < 8
    · have h1 := q_low h.toNat j
      have h2 := le1_pb h j
      have h3 := q_next h.toNat j h.toNat_lt
      have h4 := le8_take h j hjk
      repeat' (first
    | (with_reducible apply W_seq_k; intro nx hnx)
    | (with_reducible first | apply W_block | apply W_scope)
    | (with_reducible refine W_prune 499 ?_; simp only [prb, Nat.reducePow, Nat.reduceDiv, Nat.reduceMod, Nat.reduceBEq]; with_reducible apply W_region_l)
    | ((first | (with_reducible apply WL_op; intro nx hnx) | with_reducible refine Ev_out ?_ | (with_reducible refine pfresh_k hnm fun nm hnm => ?_; (try simp only [fmb] at hnm)) | (with_reducible refine pborn_mu hnm fun nm hnm => ?_; (try simp only [fmb] at hnm))); try (simp (maxSteps := 2000000) (disch := omega) only [evb, evd, pbuiltin, constPV, pnck, seqK, blockK, scopeK, pbin, pun, ppick, plen, piaddr, pindex, pfield, pslice, pbound, pconv, pelems, pextract, pmm, PV.mem?, PV.one, PV.cells, pageq, peqs, peq1, pmakes, pstore, pbytes, pmark, psrc, pkey, pnile, pcap, pgrow, List.set, Value.cells, ↓popG_eq, ↓pop.eq_1, ↓List.getElem?_map, ↓List.getElem?_cons_zero, ↓List.getElem?_cons_succ, Value.oneCell', Nat.reduceAdd, Nat.reduceMul, Nat.reduceSub, Nat.reduceLeDiff, Nat.reduceEqDiff, ↓reduceIte, ne_eq, reduceCtorEq, forall_const, exists_and_left, exists_eq_left', eq_self, Nat.reduceLT, Int.reduceLT, Int.reduceLE, Int.reduceToNat, Int.reduceAdd, Int.reduceSub, Int.reduceNeg, hnm, Try.tf0, Try.tf1, Try.tf3, Try.tf4, Try.tf5, Try.tf22, Try.tf33, Try.teq79, h1, h2, h3]); repeat (refine And.intro (by omega) ?_))
    | ((with_reducible first | apply WL_nil | apply W_label | apply W_skip | apply W_exit | apply W_ret); try simp only [seqK, blockK, scopeK, ↓reduceIte, Nat.reduceEqDiff])
    | (with_reducible apply W_cond_k; intro _ _ ea eb; (simp only [condK, cob, opnd, constPV, Nat.reduceEqDiff, Nat.reduceLT, ↓reduceIte, hcb, reduceCtorEq, forall_const, ne_eq]); subst ea eb; first | (refine ⟨fun hc => ?_, fun hc => ?_⟩ <;> first | (exfalso; omega) | (exfalso; exact hc trivial) | skip) | skip)
    | (with_reducible apply hnx; clear hnx nx)
    | (with_reducible refine And.intro (by omega) ?_)
    | (with_reducible refine And.intro ?_ ?_)
    | (clear hnx nx; with_reducible apply hnx; clear hnx nx)
    | (clear hnx nx; clear hnx nx; with_reducible apply hnx; clear hnx nx)
    | (clear hnx nx; clear hnx nx; clear hnx nx; with_reducible apply hnx; clear hnx nx))
      all_goals first
        | (exfalso
           omega)
        | (refine hlp _ (8 - (j + 1)) _ (by omega) ?_ ⟨j + 1, nm, o ++ [le1 h j], by omega, rfl, by rw [h4, ho, List.append_assoc], rfl⟩
           rw [List.length_append, List.map_append]
           refine Wk_fr (by simp only [wkb, Nat.reduceEqDiff, Nat.reduceLT, ↓reduceIte, List.length_cons, List.length_nil, Nat.zero_add]) ?_
           exact ⟨by simp, by simp [names]⟩)
    · have hoh : o = b ++ le8 h := by rw [ho, List.take_of_length_le (by rw [le8_len]; omega)]
      rw [← hoh] at hfin
      repeat' (first
    | (with_reducible apply W_seq_k; intro nx hnx)
    | (with_reducible first | apply W_block | apply W_scope)
    | (with_reducible refine W_prune 499 ?_; simp only [prb, Nat.reducePow, Nat.reduceDiv, Nat.reduceMod, Nat.reduceBEq]; with_reducible apply W_region_l)
    | ((first | (with_reducible apply WL_op; intro nx hnx) | with_reducible refine Ev_out ?_ | (with_reducible refine pfresh_k hnm fun nm hnm => ?_; (try simp only [fmb] at hnm)) | (with_reducible refine pborn_mu hnm fun nm hnm => ?_; (try simp only [fmb] at hnm))); try (simp (maxSteps := 2000000) (disch := omega) only [evb, evd, pbuiltin, constPV, pnck, seqK, blockK, scopeK, pbin, pun, ppick, plen, piaddr, pindex, pfield, pslice, pbound, pconv, pelems, pextract, pmm, PV.mem?, PV.one, PV.cells, pageq, peqs, peq1, pmakes, pstore, pbytes, pmark, psrc, pkey, pnile, pcap, pgrow, List.set, Value.cells, ↓popG_eq, ↓pop.eq_1, ↓List.getElem?_map, ↓List.getElem?_cons_zero, ↓List.getElem?_cons_succ, Value.oneCell', Nat.reduceAdd, Nat.reduceMul, Nat.reduceSub, Nat.reduceLeDiff, Nat.reduceEqDiff, ↓reduceIte, ne_eq, reduceCtorEq, forall_const, exists_and_left, exists_eq_left', eq_self, Nat.reduceLT, Int.reduceLT, Int.reduceLE, Int.reduceToNat, Int.reduceAdd, Int.reduceSub, Int.reduceNeg, hnm, Try.tf0, Try.tf1, Try.tf3, Try.tf4, Try.tf5, Try.tf22, Try.tf33, Try.teq79]); repeat (refine And.intro (by omega) ?_))
    | ((with_reducible first | apply WL_nil | apply W_label | apply W_skip | apply W_exit | apply W_ret); try simp only [seqK, blockK, scopeK, ↓reduceIte, Nat.reduceEqDiff])
    | (with_reducible apply W_cond_k; intro _ _ ea eb; (simp only [condK, cob, opnd, constPV, Nat.reduceEqDiff, Nat.reduceLT, ↓reduceIte, hcb, reduceCtorEq, forall_const, ne_eq]); subst ea eb; first | (refine ⟨fun hc => ?_, fun hc => ?_⟩ <;> first | (exfalso; omega) | (exfalso; exact hc trivial) | skip) | skip)
    | (with_reducible apply hnx; clear hnx nx)
    | (with_reducible refine And.intro (by omega) ?_)
    | (with_reducible refine And.intro ?_ ?_)
    | (clear hnx nx; with_reducible apply hnx; clear hnx nx)
    | (clear hnx nx; clear hnx nx; with_reducible apply hnx; clear hnx nx)
    | (clear hnx nx; clear hnx nx; clear hnx nx; with_reducible apply hnx; clear hnx nx))
      all_goals first
        | (exfalso
           omega)
        | (refine hfin _ _ (Fin_ret1 rfl (Sub_refl (by simp [names])) ?_); simp only [List.getD_cons_zero, List.getD_cons_succ, fr_getD_cons, fr_getD_nil, Nat.reduceEqDiff, Nat.reduceLT, ↓reduceIte]
           exact ⟨M, rfl, rfl⟩)
theorem rseal_c (G : Globs) (key : UInt64) (b : List UInt8) (hb : b.length ≤ 4294967296) : PCalls Try.prog G 17 [pq key, .list 1 (b.map pbyte)] [] (fun res H => res = .list 1 ((b ++ sealB key b).map pbyte) ∧ H = []) := RowB.frz (rseal_r G key b hb)
/-- A copy: a row, or none. -/
def CR (b : List UInt8) (res : PV) (H : Heap) : Prop := (b = [] ∧ res = pnil ∧ H = []) ∨ RowB b res H
set_option maxRecDepth 100000 in
set_option maxHeartbeats 8000000 in
theorem clone_r (G : Globs) (b : List UInt8) (hb : b.length ≤ 4294967296) : PCalls Try.prog G 32 [.list 1 (b.map pbyte)] [] (CR b) := by
  (refine PCalls_f Try.func32 rfl Try.ntmps32 Try.results32 (by simp) fun fin hfin => ?_; have hnm : True := trivial; simp (maxSteps := 2000000) (disch := omega) only [evb, evd, pbuiltin, constPV, pnck, seqK, blockK, scopeK, pbin, pun, ppick, plen, piaddr, pindex, pfield, pslice, pbound, pconv, pelems, pextract, pmm, PV.mem?, PV.one, PV.cells, pageq, peqs, peq1, pmakes, pstore, pbytes, pmark, psrc, pkey, pnile, pcap, pgrow, List.set, Value.cells, ↓popG_eq, ↓pop.eq_1, ↓List.getElem?_map, ↓List.getElem?_cons_zero, ↓List.getElem?_cons_succ, Value.oneCell', Nat.reduceAdd, Nat.reduceMul, Nat.reduceSub, Nat.reduceLeDiff, Nat.reduceEqDiff, ↓reduceIte, ne_eq, reduceCtorEq, forall_const, exists_and_left, exists_eq_left', eq_self, Nat.reduceLT, Int.reduceLT, Int.reduceLE, Int.reduceToNat, Int.reduceAdd, Int.reduceSub, Int.reduceNeg, hnm, Try.tf0, Try.tf4, Try.tf5, Try.tf33, Try.teq79])
  repeat' (first
    | (with_reducible apply W_seq_k; intro nx hnx)
    | (with_reducible first | apply W_block | apply W_scope)
    | (with_reducible refine W_prune 5 ?_; simp only [prb, Nat.reducePow, Nat.reduceDiv, Nat.reduceMod, Nat.reduceBEq]; with_reducible apply W_region_l)
    | ((first | (with_reducible apply WL_op; intro nx hnx) | with_reducible refine Ev_out ?_ | (with_reducible refine pfresh_k hnm fun nm hnm => ?_; (try simp only [fmb] at hnm)) | (with_reducible refine pborn_mu hnm fun nm hnm => ?_; (try simp only [fmb] at hnm)) | (with_reducible refine pmaybe_k ?_; intro bn hbn)); try (simp (maxSteps := 2000000) (disch := omega) only [evb, evd, pbuiltin, constPV, pnck, seqK, blockK, scopeK, pbin, pun, ppick, plen, piaddr, pindex, pfield, pslice, pbound, pconv, pelems, pextract, pmm, PV.mem?, PV.one, PV.cells, pageq, peqs, peq1, pmakes, pstore, pbytes, pmark, psrc, pkey, pnile, pcap, pgrow, List.set, Value.cells, ↓popG_eq, ↓pop.eq_1, ↓List.getElem?_map, ↓List.getElem?_cons_zero, ↓List.getElem?_cons_succ, Value.oneCell', Nat.reduceAdd, Nat.reduceMul, Nat.reduceSub, Nat.reduceLeDiff, Nat.reduceEqDiff, ↓reduceIte, ne_eq, reduceCtorEq, forall_const, exists_and_left, exists_eq_left', eq_self, Nat.reduceLT, Int.reduceLT, Int.reduceLE, Int.reduceToNat, Int.reduceAdd, Int.reduceSub, Int.reduceNeg, hnm, Try.tf0, Try.tf4, Try.tf5, Try.tf33, Try.teq79, flat_pb]); repeat (refine And.intro (by omega) ?_))
    | ((with_reducible first | apply WL_nil | apply W_label | apply W_skip | apply W_exit | apply W_ret); try simp only [seqK, blockK, scopeK, ↓reduceIte, Nat.reduceEqDiff])
    | (with_reducible apply W_cond_k; intro _ _ ea eb; (simp only [condK, cob, opnd, constPV, Nat.reduceEqDiff, Nat.reduceLT, ↓reduceIte, hcb, reduceCtorEq, forall_const, ne_eq]); subst ea eb; first | (refine ⟨fun hc => ?_, fun hc => ?_⟩ <;> first | (exfalso; omega) | (exfalso; exact hc trivial) | skip) | skip)
    | (with_reducible apply hnx; clear hnx nx)
    | (with_reducible refine And.intro (by omega) ?_)
    | (with_reducible refine And.intro ?_ ?_)
    | (clear hnx nx; with_reducible apply hnx; clear hnx nx)
    | (clear hnx nx; clear hnx nx; with_reducible apply hnx; clear hnx nx)
    | (clear hnx nx; clear hnx nx; clear hnx nx; with_reducible apply hnx; clear hnx nx))
  all_goals first
    | (exfalso
       omega)
    | skip
  · refine hfin _ _ (Fin_ret1 rfl (Sub_nil _) ?_); simp only [List.getD_cons_zero, List.getD_cons_succ, fr_getD_cons, fr_getD_nil, Nat.reduceEqDiff, Nat.reduceLT, ↓reduceIte]
    refine .inl ⟨?_, rfl, rfl⟩
    subst hc
    cases b with
    | nil => rfl
    | cons x b => exact absurd (hbn (by simp)) (by simp)
  · refine hfin _ _ (Fin_ret1 rfl (Sub_refl (by simp [names])) ?_); simp only [List.getD_cons_zero, List.getD_cons_succ, fr_getD_cons, fr_getD_nil, Nat.reduceEqDiff, Nat.reduceLT, ↓reduceIte]
    exact .inr ⟨nm, rfl, rfl⟩
theorem CR.frz {G : Globs} {f : FuncId} {args : List PV} {b : List UInt8} (h : PCalls Try.prog G f args [] (CR b)) : PCalls Try.prog G f args [] (fun res H => res = .list 1 (b.map pbyte) ∧ H = []) := by
  refine h.px fun res H hR => ?_
  rcases hR with ⟨rfl, rfl, rfl⟩ | ⟨N, rfl, rfl⟩
  · exact ⟨_, _, Px.nil 1 _, rfl, rfl⟩
  · have h2 := Px.freeze (G := G) (.row N 1 b.length) [(N, ⟨5, true, 1, b.map pbyte⟩)] N (o := ⟨5, true, 1, b.map pbyte⟩) (by simp only [look, if_true]) (by simp [frzOk, del])
    refine ⟨_, _, h2, ?_, by simp [frzH, del]⟩
    simp only [PM.frz, frz1, if_true]
    rw [if_pos ⟨by simp, by omega⟩, elemsOf, if_pos rfl, List.take_of_length_le (by simp)]
theorem clone_c (G : Globs) (b : List UInt8) (hb : b.length ≤ 4294967296) : PCalls Try.prog G 32 [.list 1 (b.map pbyte)] [] (fun res H => res = .list 1 (b.map pbyte) ∧ H = []) := CR.frz (clone_r G b hb)
set_option maxRecDepth 100000 in
set_option maxHeartbeats 8000000 in
/-- An empty row with room, or none. -/
theorem grow_c (G : Globs) (n : Nat) (hn : n ≤ 4294967296) : PCalls Try.prog G 51 [pnil, pint .i64 n] [] (CR []) := by
  (refine PCalls_f Try.func51 rfl Try.ntmps51 Try.results51 (by simp) fun fin hfin => ?_; have hnm : True := trivial; simp (maxSteps := 2000000) (disch := omega) only [evb, evd, pbuiltin, constPV, pnck, seqK, blockK, scopeK, pbin, pun, ppick, plen, piaddr, pindex, pfield, pslice, pbound, pconv, pelems, pextract, pmm, PV.mem?, PV.one, PV.cells, pageq, peqs, peq1, pmakes, pstore, pbytes, pmark, psrc, pkey, pnile, pcap, pgrow, List.set, Value.cells, ↓popG_eq, ↓pop.eq_1, ↓List.getElem?_map, ↓List.getElem?_cons_zero, ↓List.getElem?_cons_succ, Value.oneCell', Nat.reduceAdd, Nat.reduceMul, Nat.reduceSub, Nat.reduceLeDiff, Nat.reduceEqDiff, ↓reduceIte, ne_eq, reduceCtorEq, forall_const, exists_and_left, exists_eq_left', eq_self, Nat.reduceLT, Int.reduceLT, Int.reduceLE, Int.reduceToNat, Int.reduceAdd, Int.reduceSub, Int.reduceNeg, hnm, Try.tf0, Try.tf3, Try.tf4, Try.tf5, Try.tf9, Try.tf20, Try.tf33, Try.teq79])
  repeat' (first
    | (with_reducible apply W_seq_k; intro nx hnx)
    | (with_reducible first | apply W_block | apply W_scope)
    | (with_reducible refine W_prune 19 ?_; simp only [prb, Nat.reducePow, Nat.reduceDiv, Nat.reduceMod, Nat.reduceBEq]; with_reducible apply W_region_l)
    | ((first | (with_reducible apply WL_op; intro nx hnx) | with_reducible refine Ev_out ?_ | (with_reducible refine pfresh_k hnm fun nm hnm => ?_; (try simp only [fmb] at hnm)) | (with_reducible refine pborn_mu hnm fun nm hnm => ?_; (try simp only [fmb] at hnm))); try (simp (maxSteps := 2000000) (disch := omega) only [evb, evd, pbuiltin, constPV, pnck, seqK, blockK, scopeK, pbin, pun, ppick, plen, piaddr, pindex, pfield, pslice, pbound, pconv, pelems, pextract, pmm, PV.mem?, PV.one, PV.cells, pageq, peqs, peq1, pmakes, pstore, pbytes, pmark, psrc, pkey, pnile, pcap, pgrow, List.set, Value.cells, ↓popG_eq, ↓pop.eq_1, ↓List.getElem?_map, ↓List.getElem?_cons_zero, ↓List.getElem?_cons_succ, Value.oneCell', Nat.reduceAdd, Nat.reduceMul, Nat.reduceSub, Nat.reduceLeDiff, Nat.reduceEqDiff, ↓reduceIte, ne_eq, reduceCtorEq, forall_const, exists_and_left, exists_eq_left', eq_self, Nat.reduceLT, Int.reduceLT, Int.reduceLE, Int.reduceToNat, Int.reduceAdd, Int.reduceSub, Int.reduceNeg, hnm, Try.tf0, Try.tf3, Try.tf4, Try.tf5, Try.tf9, Try.tf20, Try.tf33, Try.teq79]); repeat (refine And.intro (by omega) ?_))
    | ((with_reducible first | apply WL_nil | apply W_label | apply W_skip | apply W_exit | apply W_ret); try simp only [seqK, blockK, scopeK, ↓reduceIte, Nat.reduceEqDiff])
    | (with_reducible apply W_cond_k; intro _ _ ea eb; (simp only [condK, cob, opnd, constPV, Nat.reduceEqDiff, Nat.reduceLT, ↓reduceIte, hcb, reduceCtorEq, forall_const, ne_eq]); subst ea eb; first | (refine ⟨fun hc => ?_, fun hc => ?_⟩ <;> first | (exfalso; omega) | (exfalso; exact hc trivial) | skip) | skip)
    | (with_reducible apply hnx; clear hnx nx)
    | (with_reducible refine And.intro (by omega) ?_)
    | (with_reducible refine And.intro ?_ ?_)
    | (clear hnx nx; with_reducible apply hnx; clear hnx nx)
    | (clear hnx nx; clear hnx nx; with_reducible apply hnx; clear hnx nx)
    | (clear hnx nx; clear hnx nx; clear hnx nx; with_reducible apply hnx; clear hnx nx))
  all_goals first
    | (exfalso
       omega)
    | skip
  · refine hfin _ _ (Fin_ret1 rfl (Sub_refl (by simp [names])) ?_); simp only [List.getD_cons_zero, List.getD_cons_succ, fr_getD_cons, fr_getD_nil, Nat.reduceEqDiff, Nat.reduceLT, ↓reduceIte]
    exact .inr ⟨nm, rfl, rfl⟩
  · refine hfin _ _ (Fin_ret1 rfl (Sub_nil _) ?_); simp only [List.getD_cons_zero, List.getD_cons_succ, fr_getD_cons, fr_getD_nil, Nat.reduceEqDiff, Nat.reduceLT, ↓reduceIte]
    exact .inl ⟨rfl, rfl, rfl⟩
/-- Bytes that nobody turns. -/
@[reducible] def pl (x : List UInt8) : PV := .list 1 (x.map pbyte)
def lenS (xs : List (List UInt8)) : Nat := (xs.map List.length).sum
theorem lenS_take (xs : List (List UInt8)) (i : Nat) (h : i < xs.length) : lenS (xs.take (i + 1)) = lenS (xs.take i) + xs[i].length := by
  rw [List.take_add_one, List.getElem?_eq_getElem h]
  unfold lenS
  rw [List.map_append, List.sum_append]
  rfl
theorem lenS_le (xs : List (List UInt8)) (i : Nat) : lenS (xs.take i) ≤ lenS xs := by
  have h : lenS xs = lenS (xs.take i) + lenS (xs.drop i) := by
    conv => lhs; rw [← List.take_append_drop i xs]
    unfold lenS
    rw [List.map_append, List.sum_append]
  omega
theorem lenS_flat (xs : List (List UInt8)) : xs.flatten.length = lenS xs := by simp [lenS, List.length_flatten]
theorem flat_take (xs : List (List UInt8)) (i : Nat) (h : i < xs.length) : (xs.take (i + 1)).flatten = (xs.take i).flatten ++ xs[i] := by
  rw [List.take_add_one, List.getElem?_eq_getElem h, List.flatten_append]
  congr 1
  show [xs[i]].flatten = _
  simp
set_option maxRecDepth 100000 in
set_option maxHeartbeats 8000000 in
theorem concat_r (G : Globs) (xs : List (List UInt8)) (hx : xs.length ≤ 1000) (hb : lenS xs ≤ 4294967296) : PCalls Try.prog G 42 [.list 1 (xs.map pl)] [] (CR xs.flatten) := by
  (refine PCalls_f Try.func42 rfl Try.ntmps42 Try.results42 (by simp) fun fin hfin => ?_; have hnm : True := trivial; simp (maxSteps := 2000000) (disch := omega) only [evb, evd, pbuiltin, constPV, pnck, seqK, blockK, scopeK, pbin, pun, ppick, plen, piaddr, pindex, pfield, pslice, pbound, pconv, pelems, pextract, pmm, PV.mem?, PV.one, PV.cells, pageq, peqs, peq1, pmakes, pstore, pbytes, pmark, psrc, pkey, pnile, pcap, pgrow, List.set, Value.cells, ↓popG_eq, ↓pop.eq_1, ↓List.getElem?_map, ↓List.getElem?_cons_zero, ↓List.getElem?_cons_succ, Value.oneCell', Nat.reduceAdd, Nat.reduceMul, Nat.reduceSub, Nat.reduceLeDiff, Nat.reduceEqDiff, ↓reduceIte, ne_eq, reduceCtorEq, forall_const, exists_and_left, exists_eq_left', eq_self, Nat.reduceLT, Int.reduceLT, Int.reduceLE, Int.reduceToNat, Int.reduceAdd, Int.reduceSub, Int.reduceNeg, hnm, Try.tf0, Try.tf3, Try.tf4, Try.tf5, Try.tf9, Try.tf20, Try.tf28, Try.tf33, Try.teq79, Try.call51])
  repeat' (first
    | (with_reducible apply W_seq_k; intro nx hnx)
    | (with_reducible first | apply W_block | apply W_scope)
    | (with_reducible refine W_prune 234884973 ?_; simp only [prb, Nat.reducePow, Nat.reduceDiv, Nat.reduceMod, Nat.reduceBEq]; with_reducible apply W_region_l)
    | ((first | (with_reducible apply WL_op; intro nx hnx) | with_reducible refine Ev_out ?_ | (with_reducible refine pfresh_k hnm fun nm hnm => ?_; (try simp only [fmb] at hnm)) | (with_reducible refine pborn_mu hnm fun nm hnm => ?_; (try simp only [fmb] at hnm))); try (simp (maxSteps := 2000000) (disch := omega) only [evb, evd, pbuiltin, constPV, pnck, seqK, blockK, scopeK, pbin, pun, ppick, plen, piaddr, pindex, pfield, pslice, pbound, pconv, pelems, pextract, pmm, PV.mem?, PV.one, PV.cells, pageq, peqs, peq1, pmakes, pstore, pbytes, pmark, psrc, pkey, pnile, pcap, pgrow, List.set, Value.cells, ↓popG_eq, ↓pop.eq_1, ↓List.getElem?_map, ↓List.getElem?_cons_zero, ↓List.getElem?_cons_succ, Value.oneCell', Nat.reduceAdd, Nat.reduceMul, Nat.reduceSub, Nat.reduceLeDiff, Nat.reduceEqDiff, ↓reduceIte, ne_eq, reduceCtorEq, forall_const, exists_and_left, exists_eq_left', eq_self, Nat.reduceLT, Int.reduceLT, Int.reduceLE, Int.reduceToNat, Int.reduceAdd, Int.reduceSub, Int.reduceNeg, hnm, Try.tf0, Try.tf3, Try.tf4, Try.tf5, Try.tf9, Try.tf20, Try.tf28, Try.tf33, Try.teq79, Try.call51]); repeat (refine And.intro (by omega) ?_))
    | ((with_reducible first | apply WL_nil | apply W_label | apply W_skip | apply W_exit | apply W_ret); try simp only [seqK, blockK, scopeK, ↓reduceIte, Nat.reduceEqDiff])
    | (with_reducible apply W_cond_k; intro _ _ ea eb; (simp only [condK, cob, opnd, constPV, Nat.reduceEqDiff, Nat.reduceLT, ↓reduceIte, hcb, reduceCtorEq, forall_const, ne_eq]); subst ea eb; first | (refine ⟨fun hc => ?_, fun hc => ?_⟩ <;> first | (exfalso; omega) | (exfalso; exact hc trivial) | skip) | skip)
    | (with_reducible apply hnx; clear hnx nx)
    | (with_reducible refine And.intro (by omega) ?_)
    | (with_reducible refine And.intro ?_ ?_)
    | (clear hnx nx; with_reducible apply hnx; clear hnx nx)
    | (clear hnx nx; clear hnx nx; with_reducible apply hnx; clear hnx nx)
    | (clear hnx nx; clear hnx nx; clear hnx nx; with_reducible apply hnx; clear hnx nx))
  refine W_loop_k (fun z τ => ∃ (i : Nat), i ≤ xs.length ∧ z = xs.length - i ∧ τ = ⟨fr 36 [(0, .list 1 (xs.map pl)), (9, .list 1 (xs.map pl)), (10, pint .i64 xs.length), (11, pint .i64 i), (3, pint .i64 (lenS (xs.take i)))], []⟩) xs.length
    ⟨fr 36 [(0, .list 1 (xs.map pl)), (9, .list 1 (xs.map pl)), (10, pint .i64 xs.length), (11, pint .i64 (0 : Nat)), (3, pint .i64 (0 : Nat))], []⟩ (by
    refine Wk_fr (by simp only [wkb, Nat.reduceEqDiff, Nat.reduceLT, ↓reduceIte]) ?_
    exact ⟨by simp, by simp [names]⟩) ⟨0, by omega, by omega, rfl⟩ ?_
  rintro z τ ⟨i, hi, rfl, rfl⟩ lp hlp
  have hle := lenS_le xs (i + 1)
  by_cases hik : i < xs.length
  · have ht := lenS_take xs i hik
    repeat' (first
    | (with_reducible apply W_seq_k; intro nx hnx)
    | (with_reducible first | apply W_block | apply W_scope)
    | (with_reducible refine W_prune 234884973 ?_; simp only [prb, Nat.reducePow, Nat.reduceDiv, Nat.reduceMod, Nat.reduceBEq]; with_reducible apply W_region_l)
    | ((first | (with_reducible apply WL_op; intro nx hnx) | with_reducible refine Ev_out ?_ | (with_reducible refine pfresh_k hnm fun nm hnm => ?_; (try simp only [fmb] at hnm)) | (with_reducible refine pborn_mu hnm fun nm hnm => ?_; (try simp only [fmb] at hnm))); try (simp (maxSteps := 2000000) (disch := omega) only [evb, evd, pbuiltin, constPV, pnck, seqK, blockK, scopeK, pbin, pun, ppick, plen, piaddr, pindex, pfield, pslice, pbound, pconv, pelems, pextract, pmm, PV.mem?, PV.one, PV.cells, pageq, peqs, peq1, pmakes, pstore, pbytes, pmark, psrc, pkey, pnile, pcap, pgrow, List.set, Value.cells, ↓popG_eq, ↓pop.eq_1, ↓List.getElem?_map, ↓List.getElem?_cons_zero, ↓List.getElem?_cons_succ, Value.oneCell', Nat.reduceAdd, Nat.reduceMul, Nat.reduceSub, Nat.reduceLeDiff, Nat.reduceEqDiff, ↓reduceIte, ne_eq, reduceCtorEq, forall_const, exists_and_left, exists_eq_left', eq_self, Nat.reduceLT, Int.reduceLT, Int.reduceLE, Int.reduceToNat, Int.reduceAdd, Int.reduceSub, Int.reduceNeg, hnm, Try.tf0, Try.tf3, Try.tf4, Try.tf5, Try.tf9, Try.tf20, Try.tf28, Try.tf33, Try.teq79, Try.call51]); repeat (refine And.intro (by omega) ?_))
    | ((with_reducible first | apply WL_nil | apply W_label | apply W_skip | apply W_exit | apply W_ret); try simp only [seqK, blockK, scopeK, ↓reduceIte, Nat.reduceEqDiff])
    | (with_reducible apply W_cond_k; intro _ _ ea eb; (simp only [condK, cob, opnd, constPV, Nat.reduceEqDiff, Nat.reduceLT, ↓reduceIte, hcb, reduceCtorEq, forall_const, ne_eq]); subst ea eb; first | (refine ⟨fun hc => ?_, fun hc => ?_⟩ <;> first | (exfalso; omega) | (exfalso; exact hc trivial) | skip) | skip)
    | (with_reducible apply hnx; clear hnx nx)
    | (with_reducible refine And.intro (by omega) ?_)
    | (with_reducible refine And.intro ?_ ?_)
    | (clear hnx nx; with_reducible apply hnx; clear hnx nx)
    | (clear hnx nx; clear hnx nx; with_reducible apply hnx; clear hnx nx)
    | (clear hnx nx; clear hnx nx; clear hnx nx; with_reducible apply hnx; clear hnx nx))
    all_goals first
      | (exfalso
         omega)
      | (refine hlp _ (xs.length - (i + 1)) _ (by omega) ?_ ⟨i + 1, by omega, rfl, rfl⟩
         rw [ht]
         refine Wk_fr (by simp only [wkb, Nat.reduceEqDiff, Nat.reduceLT, ↓reduceIte]) ?_
         exact ⟨by simp, by simp [names]⟩)
  · rw [List.take_of_length_le (by omega)]
    clear hlp hle
    repeat' (first
    | (with_reducible apply W_seq_k; intro nx hnx)
    | (with_reducible first | apply W_block | apply W_scope)
    | (with_reducible refine W_prune 234884973 ?_; simp only [prb, Nat.reducePow, Nat.reduceDiv, Nat.reduceMod, Nat.reduceBEq]; with_reducible apply W_region_l)
    | ((first | (with_reducible apply WL_op; intro nx hnx) | with_reducible refine Ev_out ?_ | (with_reducible refine pfresh_k hnm fun nm hnm => ?_; (try simp only [fmb] at hnm)) | (with_reducible refine pborn_mu hnm fun nm hnm => ?_; (try simp only [fmb] at hnm))); try (simp (maxSteps := 2000000) (disch := omega) only [evb, evd, pbuiltin, constPV, pnck, seqK, blockK, scopeK, pbin, pun, ppick, plen, piaddr, pindex, pfield, pslice, pbound, pconv, pelems, pextract, pmm, PV.mem?, PV.one, PV.cells, pageq, peqs, peq1, pmakes, pstore, pbytes, pmark, psrc, pkey, pnile, pcap, pgrow, List.set, Value.cells, ↓popG_eq, ↓pop.eq_1, ↓List.getElem?_map, ↓List.getElem?_cons_zero, ↓List.getElem?_cons_succ, Value.oneCell', Nat.reduceAdd, Nat.reduceMul, Nat.reduceSub, Nat.reduceLeDiff, Nat.reduceEqDiff, ↓reduceIte, ne_eq, reduceCtorEq, forall_const, exists_and_left, exists_eq_left', eq_self, Nat.reduceLT, Int.reduceLT, Int.reduceLE, Int.reduceToNat, Int.reduceAdd, Int.reduceSub, Int.reduceNeg, hnm, Try.tf0, Try.tf3, Try.tf4, Try.tf5, Try.tf9, Try.tf20, Try.tf28, Try.tf33, Try.teq79, Try.call51]); repeat (refine And.intro (by omega) ?_))
    | ((with_reducible first | apply WL_nil | apply W_label | apply W_skip | apply W_exit | apply W_ret); try simp only [seqK, blockK, scopeK, ↓reduceIte, Nat.reduceEqDiff])
    | (with_reducible apply W_cond_k; intro _ _ ea eb; (simp only [condK, cob, opnd, constPV, Nat.reduceEqDiff, Nat.reduceLT, ↓reduceIte, hcb, reduceCtorEq, forall_const, ne_eq]); subst ea eb; first | (refine ⟨fun hc => ?_, fun hc => ?_⟩ <;> first | (exfalso; omega) | (exfalso; exact hc trivial) | skip) | skip)
    | (with_reducible apply hnx; clear hnx nx)
    | (with_reducible refine And.intro (by omega) ?_)
    | (with_reducible refine And.intro ?_ ?_)
    | (clear hnx nx; with_reducible apply hnx; clear hnx nx)
    | (clear hnx nx; clear hnx nx; with_reducible apply hnx; clear hnx nx)
    | (clear hnx nx; clear hnx nx; clear hnx nx; with_reducible apply hnx; clear hnx nx))
    all_goals first
      | (exfalso
         omega)
      | skip
    refine pcall_k (grow_c G (lenS xs) hb) ?_
    intro res Hout hR hnew
    have two : (res = pnil ∧ Hout = []) ∨ ∃ N0, res = .row N0 1 0 ∧ Hout = [(N0, ⟨5, true, 1, []⟩)] := by
      rcases hR with ⟨_, h1, h2⟩ | ⟨N0, h1, h2⟩
      · exact .inl ⟨h1, h2⟩
      · exact .inr ⟨N0, h1, h2⟩
    clear hR hnew
    rcases two with ⟨rfl, rfl⟩ | ⟨N0, rfl, rfl⟩
    · refine Ev_in ?_
      repeat' (first
    | (with_reducible apply W_seq_k; intro nx hnx)
    | (with_reducible first | apply W_block | apply W_scope)
    | (with_reducible refine W_prune 234884973 ?_; simp only [prb, Nat.reducePow, Nat.reduceDiv, Nat.reduceMod, Nat.reduceBEq]; with_reducible apply W_region_l)
    | ((first | (with_reducible apply WL_op; intro nx hnx) | with_reducible refine Ev_out ?_ | (with_reducible refine pfresh_k hnm fun nm hnm => ?_; (try simp only [fmb] at hnm)) | (with_reducible refine pborn_mu hnm fun nm hnm => ?_; (try simp only [fmb] at hnm))); try (simp (maxSteps := 2000000) (disch := omega) only [evb, evd, pbuiltin, constPV, pnck, seqK, blockK, scopeK, pbin, pun, ppick, plen, piaddr, pindex, pfield, pslice, pbound, pconv, pelems, pextract, pmm, PV.mem?, PV.one, PV.cells, pageq, peqs, peq1, pmakes, pstore, pbytes, pmark, psrc, pkey, pnile, pcap, pgrow, List.set, Value.cells, ↓popG_eq, ↓pop.eq_1, ↓List.getElem?_map, ↓List.getElem?_cons_zero, ↓List.getElem?_cons_succ, Value.oneCell', Nat.reduceAdd, Nat.reduceMul, Nat.reduceSub, Nat.reduceLeDiff, Nat.reduceEqDiff, ↓reduceIte, ne_eq, reduceCtorEq, forall_const, exists_and_left, exists_eq_left', eq_self, Nat.reduceLT, Int.reduceLT, Int.reduceLE, Int.reduceToNat, Int.reduceAdd, Int.reduceSub, Int.reduceNeg, hnm, Try.tf0, Try.tf3, Try.tf4, Try.tf5, Try.tf9, Try.tf20, Try.tf28, Try.tf33, Try.teq79, Try.call51]); repeat (refine And.intro (by omega) ?_))
    | ((with_reducible first | apply WL_nil | apply W_label | apply W_skip | apply W_exit | apply W_ret); try simp only [seqK, blockK, scopeK, ↓reduceIte, Nat.reduceEqDiff])
    | (with_reducible apply W_cond_k; intro _ _ ea eb; (simp only [condK, cob, opnd, constPV, Nat.reduceEqDiff, Nat.reduceLT, ↓reduceIte, hcb, reduceCtorEq, forall_const, ne_eq]); subst ea eb; first | (refine ⟨fun hc => ?_, fun hc => ?_⟩ <;> first | (exfalso; omega) | (exfalso; exact hc trivial) | skip) | skip)
    | (with_reducible apply hnx; clear hnx nx)
    | (with_reducible refine And.intro (by omega) ?_)
    | (with_reducible refine And.intro ?_ ?_)
    | (clear hnx nx; with_reducible apply hnx; clear hnx nx)
    | (clear hnx nx; clear hnx nx; with_reducible apply hnx; clear hnx nx)
    | (clear hnx nx; clear hnx nx; clear hnx nx; with_reducible apply hnx; clear hnx nx))
      refine W_adopt_f 6 5 1 (by simp only [fr_getD_cons, Nat.reduceEqDiff, Nat.reduceLT, ↓reduceIte]) fun N0 hN0 => ?_
      refine W_loop_k (fun z τ => ∃ (i : Nat) (N : Int) (o : List UInt8), i ≤ xs.length ∧ z = xs.length - i ∧ o = (xs.take i).flatten ∧ τ = ⟨fr 36 [(25, .list 1 (xs.map pl)), (26, pint .i64 xs.length), (27, pint .i64 i), (6, .row N 1 o.length)], [(N, ⟨5, true, 1, o.map pbyte⟩)]⟩) xs.length
        ⟨fr 36 [(25, .list 1 (xs.map pl)), (26, pint .i64 xs.length), (27, pint .i64 (0 : Nat)), (6, .row N0 1 0)], [(N0, ⟨5, true, 1, []⟩)]⟩ (by
        refine Wk_fr (by simp only [wkb, Nat.reduceEqDiff, Nat.reduceLT, ↓reduceIte]) ?_
        exact ⟨by simp, by simp [names]⟩) ⟨0, N0, [], by omega, by omega, by simp, rfl⟩ ?_
      rintro z τ ⟨k, N, o, hk, rfl, ho, rfl⟩ lp hlp
      have hol : o.length = lenS (xs.take k) := by rw [ho, lenS_flat]
      have hle := lenS_le xs (k + 1)
      by_cases hkk : k < xs.length
      · have ht := lenS_take xs k hkk
        have hf := flat_take xs k hkk
        repeat' (first
    | (with_reducible apply W_seq_k; intro nx hnx)
    | (with_reducible first | apply W_block | apply W_scope)
    | (with_reducible refine W_prune 234884973 ?_; simp only [prb, Nat.reducePow, Nat.reduceDiv, Nat.reduceMod, Nat.reduceBEq]; with_reducible apply W_region_l)
    | ((first | (with_reducible apply WL_op; intro nx hnx) | with_reducible refine Ev_out ?_ | (with_reducible refine pfresh_k hnm fun nm hnm => ?_; (try simp only [fmb] at hnm)) | (with_reducible refine pborn_mu hnm fun nm hnm => ?_; (try simp only [fmb] at hnm))); try (simp (maxSteps := 2000000) (disch := omega) only [evb, evd, pbuiltin, constPV, pnck, seqK, blockK, scopeK, pbin, pun, ppick, plen, piaddr, pindex, pfield, pslice, pbound, pconv, pelems, pextract, pmm, PV.mem?, PV.one, PV.cells, pageq, peqs, peq1, pmakes, pstore, pbytes, pmark, psrc, pkey, pnile, pcap, pgrow, List.set, Value.cells, ↓popG_eq, ↓pop.eq_1, ↓List.getElem?_map, ↓List.getElem?_cons_zero, ↓List.getElem?_cons_succ, Value.oneCell', Nat.reduceAdd, Nat.reduceMul, Nat.reduceSub, Nat.reduceLeDiff, Nat.reduceEqDiff, ↓reduceIte, ne_eq, reduceCtorEq, forall_const, exists_and_left, exists_eq_left', eq_self, Nat.reduceLT, Int.reduceLT, Int.reduceLE, Int.reduceToNat, Int.reduceAdd, Int.reduceSub, Int.reduceNeg, hnm, Try.tf0, Try.tf3, Try.tf4, Try.tf5, Try.tf9, Try.tf20, Try.tf28, Try.tf33, Try.teq79, Try.call51, flat_pb]); repeat (refine And.intro (by omega) ?_))
    | ((with_reducible first | apply WL_nil | apply W_label | apply W_skip | apply W_exit | apply W_ret); try simp only [seqK, blockK, scopeK, ↓reduceIte, Nat.reduceEqDiff])
    | (with_reducible apply W_cond_k; intro _ _ ea eb; (simp only [condK, cob, opnd, constPV, Nat.reduceEqDiff, Nat.reduceLT, ↓reduceIte, hcb, reduceCtorEq, forall_const, ne_eq]); subst ea eb; first | (refine ⟨fun hc => ?_, fun hc => ?_⟩ <;> first | (exfalso; omega) | (exfalso; exact hc trivial) | skip) | skip)
    | (with_reducible apply hnx; clear hnx nx)
    | (with_reducible refine And.intro (by omega) ?_)
    | (with_reducible refine And.intro ?_ ?_)
    | (clear hnx nx; with_reducible apply hnx; clear hnx nx)
    | (clear hnx nx; clear hnx nx; with_reducible apply hnx; clear hnx nx)
    | (clear hnx nx; clear hnx nx; clear hnx nx; with_reducible apply hnx; clear hnx nx))
        all_goals first
          | (exfalso
             omega)
          | (refine hlp _ (xs.length - (k + 1)) _ (by omega) ?_ ⟨k + 1, nm, o ++ xs[k], by omega, rfl, by rw [hf, ho], rfl⟩
             rw [List.length_append, List.map_append]
             refine Wk_fr (by simp only [wkb, Nat.reduceEqDiff, Nat.reduceLT, ↓reduceIte]) ?_
             exact ⟨by simp, by simp [names]⟩)
      · have hox : o = xs.flatten := by rw [ho, List.take_of_length_le (by omega)]
        rw [← hox] at hfin
        repeat' (first
    | (with_reducible apply W_seq_k; intro nx hnx)
    | (with_reducible first | apply W_block | apply W_scope)
    | (with_reducible refine W_prune 234884973 ?_; simp only [prb, Nat.reducePow, Nat.reduceDiv, Nat.reduceMod, Nat.reduceBEq]; with_reducible apply W_region_l)
    | ((first | (with_reducible apply WL_op; intro nx hnx) | with_reducible refine Ev_out ?_ | (with_reducible refine pfresh_k hnm fun nm hnm => ?_; (try simp only [fmb] at hnm)) | (with_reducible refine pborn_mu hnm fun nm hnm => ?_; (try simp only [fmb] at hnm))); try (simp (maxSteps := 2000000) (disch := omega) only [evb, evd, pbuiltin, constPV, pnck, seqK, blockK, scopeK, pbin, pun, ppick, plen, piaddr, pindex, pfield, pslice, pbound, pconv, pelems, pextract, pmm, PV.mem?, PV.one, PV.cells, pageq, peqs, peq1, pmakes, pstore, pbytes, pmark, psrc, pkey, pnile, pcap, pgrow, List.set, Value.cells, ↓popG_eq, ↓pop.eq_1, ↓List.getElem?_map, ↓List.getElem?_cons_zero, ↓List.getElem?_cons_succ, Value.oneCell', Nat.reduceAdd, Nat.reduceMul, Nat.reduceSub, Nat.reduceLeDiff, Nat.reduceEqDiff, ↓reduceIte, ne_eq, reduceCtorEq, forall_const, exists_and_left, exists_eq_left', eq_self, Nat.reduceLT, Int.reduceLT, Int.reduceLE, Int.reduceToNat, Int.reduceAdd, Int.reduceSub, Int.reduceNeg, hnm, Try.tf0, Try.tf3, Try.tf4, Try.tf5, Try.tf9, Try.tf20, Try.tf28, Try.tf33, Try.teq79, Try.call51]); repeat (refine And.intro (by omega) ?_))
    | ((with_reducible first | apply WL_nil | apply W_label | apply W_skip | apply W_exit | apply W_ret); try simp only [seqK, blockK, scopeK, ↓reduceIte, Nat.reduceEqDiff])
    | (with_reducible apply W_cond_k; intro _ _ ea eb; (simp only [condK, cob, opnd, constPV, Nat.reduceEqDiff, Nat.reduceLT, ↓reduceIte, hcb, reduceCtorEq, forall_const, ne_eq]); subst ea eb; first | (refine ⟨fun hc => ?_, fun hc => ?_⟩ <;> first | (exfalso; omega) | (exfalso; exact hc trivial) | skip) | skip)
    | (with_reducible apply hnx; clear hnx nx)
    | (with_reducible refine And.intro (by omega) ?_)
    | (with_reducible refine And.intro ?_ ?_)
    | (clear hnx nx; with_reducible apply hnx; clear hnx nx)
    | (clear hnx nx; clear hnx nx; with_reducible apply hnx; clear hnx nx)
    | (clear hnx nx; clear hnx nx; clear hnx nx; with_reducible apply hnx; clear hnx nx))
        all_goals first
          | (exfalso
             omega)
          | (refine hfin _ _ (Fin_ret1 rfl (Sub_refl (by simp [names])) ?_); simp only [List.getD_cons_zero, List.getD_cons_succ, fr_getD_cons, fr_getD_nil, Nat.reduceEqDiff, Nat.reduceLT, ↓reduceIte]
             exact .inr ⟨N, rfl, rfl⟩)
    · refine Ev_in ?_
      repeat' (first
    | (with_reducible apply W_seq_k; intro nx hnx)
    | (with_reducible first | apply W_block | apply W_scope)
    | (with_reducible refine W_prune 234884973 ?_; simp only [prb, Nat.reducePow, Nat.reduceDiv, Nat.reduceMod, Nat.reduceBEq]; with_reducible apply W_region_l)
    | ((first | (with_reducible apply WL_op; intro nx hnx) | with_reducible refine Ev_out ?_ | (with_reducible refine pfresh_k hnm fun nm hnm => ?_; (try simp only [fmb] at hnm)) | (with_reducible refine pborn_mu hnm fun nm hnm => ?_; (try simp only [fmb] at hnm))); try (simp (maxSteps := 2000000) (disch := omega) only [evb, evd, pbuiltin, constPV, pnck, seqK, blockK, scopeK, pbin, pun, ppick, plen, piaddr, pindex, pfield, pslice, pbound, pconv, pelems, pextract, pmm, PV.mem?, PV.one, PV.cells, pageq, peqs, peq1, pmakes, pstore, pbytes, pmark, psrc, pkey, pnile, pcap, pgrow, List.set, Value.cells, ↓popG_eq, ↓pop.eq_1, ↓List.getElem?_map, ↓List.getElem?_cons_zero, ↓List.getElem?_cons_succ, Value.oneCell', Nat.reduceAdd, Nat.reduceMul, Nat.reduceSub, Nat.reduceLeDiff, Nat.reduceEqDiff, ↓reduceIte, ne_eq, reduceCtorEq, forall_const, exists_and_left, exists_eq_left', eq_self, Nat.reduceLT, Int.reduceLT, Int.reduceLE, Int.reduceToNat, Int.reduceAdd, Int.reduceSub, Int.reduceNeg, hnm, Try.tf0, Try.tf3, Try.tf4, Try.tf5, Try.tf9, Try.tf20, Try.tf28, Try.tf33, Try.teq79, Try.call51]); repeat (refine And.intro (by omega) ?_))
    | ((with_reducible first | apply WL_nil | apply W_label | apply W_skip | apply W_exit | apply W_ret); try simp only [seqK, blockK, scopeK, ↓reduceIte, Nat.reduceEqDiff])
    | (with_reducible apply W_cond_k; intro _ _ ea eb; (simp only [condK, cob, opnd, constPV, Nat.reduceEqDiff, Nat.reduceLT, ↓reduceIte, hcb, reduceCtorEq, forall_const, ne_eq]); subst ea eb; first | (refine ⟨fun hc => ?_, fun hc => ?_⟩ <;> first | (exfalso; omega) | (exfalso; exact hc trivial) | skip) | skip)
    | (with_reducible apply hnx; clear hnx nx)
    | (with_reducible refine And.intro (by omega) ?_)
    | (with_reducible refine And.intro ?_ ?_)
    | (clear hnx nx; with_reducible apply hnx; clear hnx nx)
    | (clear hnx nx; clear hnx nx; with_reducible apply hnx; clear hnx nx)
    | (clear hnx nx; clear hnx nx; clear hnx nx; with_reducible apply hnx; clear hnx nx))
      refine W_loop_k (fun z τ => ∃ (i : Nat) (N : Int) (o : List UInt8), i ≤ xs.length ∧ z = xs.length - i ∧ o = (xs.take i).flatten ∧ τ = ⟨fr 36 [(25, .list 1 (xs.map pl)), (26, pint .i64 xs.length), (27, pint .i64 i), (6, .row N 1 o.length)], [(N, ⟨5, true, 1, o.map pbyte⟩)]⟩) xs.length
        ⟨fr 36 [(25, .list 1 (xs.map pl)), (26, pint .i64 xs.length), (27, pint .i64 (0 : Nat)), (6, .row N0 1 0)], [(N0, ⟨5, true, 1, []⟩)]⟩ (by
        refine Wk_fr (by simp only [wkb, Nat.reduceEqDiff, Nat.reduceLT, ↓reduceIte]) ?_
        exact ⟨by simp, by simp [names]⟩) ⟨0, N0, [], by omega, by omega, by simp, rfl⟩ ?_
      rintro z τ ⟨k, N, o, hk, rfl, ho, rfl⟩ lp hlp
      have hol : o.length = lenS (xs.take k) := by rw [ho, lenS_flat]
      have hle := lenS_le xs (k + 1)
      by_cases hkk : k < xs.length
      · have ht := lenS_take xs k hkk
        have hf := flat_take xs k hkk
        repeat' (first
    | (with_reducible apply W_seq_k; intro nx hnx)
    | (with_reducible first | apply W_block | apply W_scope)
    | (with_reducible refine W_prune 234884973 ?_; simp only [prb, Nat.reducePow, Nat.reduceDiv, Nat.reduceMod, Nat.reduceBEq]; with_reducible apply W_region_l)
    | ((first | (with_reducible apply WL_op; intro nx hnx) | with_reducible refine Ev_out ?_ | (with_reducible refine pfresh_k hnm fun nm hnm => ?_; (try simp only [fmb] at hnm)) | (with_reducible refine pborn_mu hnm fun nm hnm => ?_; (try simp only [fmb] at hnm))); try (simp (maxSteps := 2000000) (disch := omega) only [evb, evd, pbuiltin, constPV, pnck, seqK, blockK, scopeK, pbin, pun, ppick, plen, piaddr, pindex, pfield, pslice, pbound, pconv, pelems, pextract, pmm, PV.mem?, PV.one, PV.cells, pageq, peqs, peq1, pmakes, pstore, pbytes, pmark, psrc, pkey, pnile, pcap, pgrow, List.set, Value.cells, ↓popG_eq, ↓pop.eq_1, ↓List.getElem?_map, ↓List.getElem?_cons_zero, ↓List.getElem?_cons_succ, Value.oneCell', Nat.reduceAdd, Nat.reduceMul, Nat.reduceSub, Nat.reduceLeDiff, Nat.reduceEqDiff, ↓reduceIte, ne_eq, reduceCtorEq, forall_const, exists_and_left, exists_eq_left', eq_self, Nat.reduceLT, Int.reduceLT, Int.reduceLE, Int.reduceToNat, Int.reduceAdd, Int.reduceSub, Int.reduceNeg, hnm, Try.tf0, Try.tf3, Try.tf4, Try.tf5, Try.tf9, Try.tf20, Try.tf28, Try.tf33, Try.teq79, Try.call51, flat_pb]); repeat (refine And.intro (by omega) ?_))
    | ((with_reducible first | apply WL_nil | apply W_label | apply W_skip | apply W_exit | apply W_ret); try simp only [seqK, blockK, scopeK, ↓reduceIte, Nat.reduceEqDiff])
    | (with_reducible apply W_cond_k; intro _ _ ea eb; (simp only [condK, cob, opnd, constPV, Nat.reduceEqDiff, Nat.reduceLT, ↓reduceIte, hcb, reduceCtorEq, forall_const, ne_eq]); subst ea eb; first | (refine ⟨fun hc => ?_, fun hc => ?_⟩ <;> first | (exfalso; omega) | (exfalso; exact hc trivial) | skip) | skip)
    | (with_reducible apply hnx; clear hnx nx)
    | (with_reducible refine And.intro (by omega) ?_)
    | (with_reducible refine And.intro ?_ ?_)
    | (clear hnx nx; with_reducible apply hnx; clear hnx nx)
    | (clear hnx nx; clear hnx nx; with_reducible apply hnx; clear hnx nx)
    | (clear hnx nx; clear hnx nx; clear hnx nx; with_reducible apply hnx; clear hnx nx))
        all_goals first
          | (exfalso
             omega)
          | (refine hlp _ (xs.length - (k + 1)) _ (by omega) ?_ ⟨k + 1, nm, o ++ xs[k], by omega, rfl, by rw [hf, ho], rfl⟩
             rw [List.length_append, List.map_append]
             refine Wk_fr (by simp only [wkb, Nat.reduceEqDiff, Nat.reduceLT, ↓reduceIte]) ?_
             exact ⟨by simp, by simp [names]⟩)
      · have hox : o = xs.flatten := by rw [ho, List.take_of_length_le (by omega)]
        rw [← hox] at hfin
        repeat' (first
    | (with_reducible apply W_seq_k; intro nx hnx)
    | (with_reducible first | apply W_block | apply W_scope)
    | (with_reducible refine W_prune 234884973 ?_; simp only [prb, Nat.reducePow, Nat.reduceDiv, Nat.reduceMod, Nat.reduceBEq]; with_reducible apply W_region_l)
    | ((first | (with_reducible apply WL_op; intro nx hnx) | with_reducible refine Ev_out ?_ | (with_reducible refine pfresh_k hnm fun nm hnm => ?_; (try simp only [fmb] at hnm)) | (with_reducible refine pborn_mu hnm fun nm hnm => ?_; (try simp only [fmb] at hnm))); try (simp (maxSteps := 2000000) (disch := omega) only [evb, evd, pbuiltin, constPV, pnck, seqK, blockK, scopeK, pbin, pun, ppick, plen, piaddr, pindex, pfield, pslice, pbound, pconv, pelems, pextract, pmm, PV.mem?, PV.one, PV.cells, pageq, peqs, peq1, pmakes, pstore, pbytes, pmark, psrc, pkey, pnile, pcap, pgrow, List.set, Value.cells, ↓popG_eq, ↓pop.eq_1, ↓List.getElem?_map, ↓List.getElem?_cons_zero, ↓List.getElem?_cons_succ, Value.oneCell', Nat.reduceAdd, Nat.reduceMul, Nat.reduceSub, Nat.reduceLeDiff, Nat.reduceEqDiff, ↓reduceIte, ne_eq, reduceCtorEq, forall_const, exists_and_left, exists_eq_left', eq_self, Nat.reduceLT, Int.reduceLT, Int.reduceLE, Int.reduceToNat, Int.reduceAdd, Int.reduceSub, Int.reduceNeg, hnm, Try.tf0, Try.tf3, Try.tf4, Try.tf5, Try.tf9, Try.tf20, Try.tf28, Try.tf33, Try.teq79, Try.call51]); repeat (refine And.intro (by omega) ?_))
    | ((with_reducible first | apply WL_nil | apply W_label | apply W_skip | apply W_exit | apply W_ret); try simp only [seqK, blockK, scopeK, ↓reduceIte, Nat.reduceEqDiff])
    | (with_reducible apply W_cond_k; intro _ _ ea eb; (simp only [condK, cob, opnd, constPV, Nat.reduceEqDiff, Nat.reduceLT, ↓reduceIte, hcb, reduceCtorEq, forall_const, ne_eq]); subst ea eb; first | (refine ⟨fun hc => ?_, fun hc => ?_⟩ <;> first | (exfalso; omega) | (exfalso; exact hc trivial) | skip) | skip)
    | (with_reducible apply hnx; clear hnx nx)
    | (with_reducible refine And.intro (by omega) ?_)
    | (with_reducible refine And.intro ?_ ?_)
    | (clear hnx nx; with_reducible apply hnx; clear hnx nx)
    | (clear hnx nx; clear hnx nx; with_reducible apply hnx; clear hnx nx)
    | (clear hnx nx; clear hnx nx; clear hnx nx; with_reducible apply hnx; clear hnx nx))
        all_goals first
          | (exfalso
             omega)
          | (refine hfin _ _ (Fin_ret1 rfl (Sub_refl (by simp [names])) ?_); simp only [List.getD_cons_zero, List.getD_cons_succ, fr_getD_cons, fr_getD_nil, Nat.reduceEqDiff, Nat.reduceLT, ↓reduceIte]
             exact .inr ⟨N, rfl, rfl⟩)
theorem concat_c (G : Globs) (xs : List (List UInt8)) (hx : xs.length ≤ 1000) (hb : lenS xs ≤ 4294967296) : PCalls Try.prog G 42 [.list 1 (xs.map pl)] [] (fun res H => res = pl xs.flatten ∧ H = []) := CR.frz (concat_r G xs hx hb)
end Go.PM

namespace Go.PM
open Go.Proofs
attribute [local irreducible] W PCalls pcall pcallI WL
/-- An object of one's own is turned no more. -/
theorem freeze_arr {G : Globs} {I : List Int} {N : Nat} {L : List (Nat × PV)} {d : Nat} {n : Int} {t : TypeId} {cells : List PV} (hI : n ∉ I) (hL : ∀ x ∈ L, frz n cells x.2 = x.2) :
    Wx G I ⟨fr N ((d, .ptr n 0) :: L), [(n, ⟨t, false, 0, cells⟩)]⟩ ⟨fr N ((d, .iptr cells 0) :: L), []⟩ := by
  have h1 := Wx.freeze_f (G := G) (I := I) (N := N) (l := (d, .ptr n 0) :: L) (H := [(n, ⟨t, false, 0, cells⟩)]) n (o := ⟨t, false, 0, cells⟩) hI (by simp only [look, if_true]) (by simp [frzOk, del])
  have e1 : L.map (fun x => (x.1, frz n cells x.2)) = L := by
    conv => rhs; rw [← List.map_id L]
    exact List.map_congr_left fun x hx => by rw [hL x hx]; rfl
  rw [List.map_cons, e1] at h1
  simpa [frz, frz1, frzH, del] using h1
set_option maxRecDepth 100000 in
set_option maxHeartbeats 8000000 in
theorem Seal_c (G : Globs) (key : UInt64) (b : List UInt8) (hb : b.length ≤ 4294900000) : PCalls Try.prog G 24 [pq key, pl b] [] (fun res H => res = pl (b ++ sealB key b) ∧ H = []) := by
  have hl := sealB_len key b
  have ho := all_one_b (sealB key b)
  have c1 := seal_c G key b (by omega)
  have c2 := concat_c G [b, sealB key b] (by simp) (by simp [lenS, hl]; omega)
  simp only [List.map_cons, List.map_nil, List.flatten_cons, List.flatten_nil, List.append_nil] at c2
  generalize sealB key b = s at *
  (refine PCalls_f Try.func24 rfl Try.ntmps24 Try.results24 (by simp) fun fin hfin => ?_; have hnm : True := trivial; simp (maxSteps := 2000000) (disch := omega) only [evb, evd, pbuiltin, constPV, pnck, seqK, blockK, scopeK, pbin, pun, ppick, plen, piaddr, pindex, pfield, pslice, pbound, pconv, pelems, pextract, pmm, PV.mem?, PV.one, PV.cells, pageq, peqs, peq1, pmakes, pstore, pbytes, pmark, psrc, pkey, pnile, pcap, pgrow, List.set, Value.cells, ↓popG_eq, ↓pop.eq_1, ↓List.getElem?_map, ↓List.getElem?_cons_zero, ↓List.getElem?_cons_succ, Value.oneCell', Nat.reduceAdd, Nat.reduceMul, Nat.reduceSub, Nat.reduceLeDiff, Nat.reduceEqDiff, ↓reduceIte, ne_eq, reduceCtorEq, forall_const, exists_and_left, exists_eq_left', eq_self, Nat.reduceLT, Int.reduceLT, Int.reduceLE, Int.reduceToNat, Int.reduceAdd, Int.reduceSub, Int.reduceNeg, hnm, Try.tf0, Try.tf2, Try.tf5, Try.tf22, Try.tf28, Try.tf33, Try.tf79, Try.teq79, Try.call41, Try.call42])
  with_reducible apply W_seq_k
  intro nx hnx
  repeat' (first
    | (with_reducible first | apply W_block | apply W_scope)
    | (with_reducible refine W_prune 51 ?_; simp only [prb, Nat.reducePow, Nat.reduceDiv, Nat.reduceMod, Nat.reduceBEq]; with_reducible apply W_region_l)
    | ((first | (with_reducible apply WL_op; intro nx hnx) | with_reducible refine Ev_out ?_ | (with_reducible refine pfresh_k hnm fun nm hnm => ?_; (try simp only [fmb] at hnm)) | (with_reducible refine pborn_mu hnm fun nm hnm => ?_; (try simp only [fmb] at hnm))); try (simp (maxSteps := 2000000) (disch := omega) only [evb, evd, pbuiltin, constPV, pnck, seqK, blockK, scopeK, pbin, pun, ppick, plen, piaddr, pindex, pfield, pslice, pbound, pconv, pelems, pextract, pmm, PV.mem?, PV.one, PV.cells, pageq, peqs, peq1, pmakes, pstore, pbytes, pmark, psrc, pkey, pnile, pcap, pgrow, List.set, Value.cells, ↓popG_eq, ↓pop.eq_1, ↓List.getElem?_map, ↓List.getElem?_cons_zero, ↓List.getElem?_cons_succ, Value.oneCell', Nat.reduceAdd, Nat.reduceMul, Nat.reduceSub, Nat.reduceLeDiff, Nat.reduceEqDiff, ↓reduceIte, ne_eq, reduceCtorEq, forall_const, exists_and_left, exists_eq_left', eq_self, Nat.reduceLT, Int.reduceLT, Int.reduceLE, Int.reduceToNat, Int.reduceAdd, Int.reduceSub, Int.reduceNeg, hnm, Try.tf0, Try.tf2, Try.tf5, Try.tf22, Try.tf28, Try.tf33, Try.tf79, Try.teq79, Try.call41, Try.call42]); repeat (refine And.intro (by omega) ?_))
    | ((with_reducible first | apply WL_nil | apply W_label | apply W_skip | apply W_exit | apply W_ret); try simp only [seqK, blockK, scopeK, ↓reduceIte, Nat.reduceEqDiff])
    | (with_reducible apply W_cond_k; intro _ _ ea eb; (simp only [condK, cob, opnd, constPV, Nat.reduceEqDiff, Nat.reduceLT, ↓reduceIte, hcb, reduceCtorEq, forall_const, ne_eq]); subst ea eb; first | (refine ⟨fun hc => ?_, fun hc => ?_⟩ <;> first | (exfalso; omega) | (exfalso; exact hc trivial) | skip) | skip)
    | (with_reducible apply hnx; clear hnx nx)
    | (with_reducible refine And.intro (by omega) ?_)
    | (with_reducible refine And.intro ?_ ?_)
    | (clear hnx nx; with_reducible apply hnx; clear hnx nx)
    | (clear hnx nx; clear hnx nx; with_reducible apply hnx; clear hnx nx)
    | (clear hnx nx; clear hnx nx; clear hnx nx; with_reducible apply hnx; clear hnx nx))
  with_reducible apply W_seq_k
  intro nx hnx
  repeat' (first
    | (with_reducible first | apply W_block | apply W_scope)
    | (with_reducible refine W_prune 51 ?_; simp only [prb, Nat.reducePow, Nat.reduceDiv, Nat.reduceMod, Nat.reduceBEq]; with_reducible apply W_region_l)
    | ((first | (with_reducible apply WL_op; intro nx hnx) | with_reducible refine Ev_out ?_ | (with_reducible refine pfresh_k hnm fun nm hnm => ?_; (try simp only [fmb] at hnm)) | (with_reducible refine pborn_mu hnm fun nm hnm => ?_; (try simp only [fmb] at hnm))); try (simp (maxSteps := 2000000) (disch := omega) only [evb, evd, pbuiltin, constPV, pnck, seqK, blockK, scopeK, pbin, pun, ppick, plen, piaddr, pindex, pfield, pslice, pbound, pconv, pelems, pextract, pmm, PV.mem?, PV.one, PV.cells, pageq, peqs, peq1, pmakes, pstore, pbytes, pmark, psrc, pkey, pnile, pcap, pgrow, List.set, Value.cells, ↓popG_eq, ↓pop.eq_1, ↓List.getElem?_map, ↓List.getElem?_cons_zero, ↓List.getElem?_cons_succ, Value.oneCell', Nat.reduceAdd, Nat.reduceMul, Nat.reduceSub, Nat.reduceLeDiff, Nat.reduceEqDiff, ↓reduceIte, ne_eq, reduceCtorEq, forall_const, exists_and_left, exists_eq_left', eq_self, Nat.reduceLT, Int.reduceLT, Int.reduceLE, Int.reduceToNat, Int.reduceAdd, Int.reduceSub, Int.reduceNeg, hnm, Try.tf0, Try.tf2, Try.tf5, Try.tf22, Try.tf28, Try.tf33, Try.tf79, Try.teq79, Try.call41, Try.call42, hl, ho, List.length_map]); repeat (refine And.intro (by omega) ?_))
    | ((with_reducible first | apply WL_nil | apply W_label | apply W_skip | apply W_exit | apply W_ret); try simp only [seqK, blockK, scopeK, ↓reduceIte, Nat.reduceEqDiff])
    | (with_reducible apply W_cond_k; intro _ _ ea eb; (simp only [condK, cob, opnd, constPV, Nat.reduceEqDiff, Nat.reduceLT, ↓reduceIte, hcb, reduceCtorEq, forall_const, ne_eq]); subst ea eb; first | (refine ⟨fun hc => ?_, fun hc => ?_⟩ <;> first | (exfalso; omega) | (exfalso; exact hc trivial) | skip) | skip)
    | (with_reducible apply hnx; clear hnx nx)
    | (with_reducible refine And.intro (by omega) ?_)
    | (with_reducible refine And.intro ?_ ?_)
    | (with_reducible refine pcall_k (c1) ?_; rintro _ _ ⟨rfl, rfl⟩ -; refine Ev_in ?_)
    | (clear hnx nx; with_reducible apply hnx; clear hnx nx)
    | (clear hnx nx; clear hnx nx; with_reducible apply hnx; clear hnx nx)
    | (clear hnx nx; clear hnx nx; clear hnx nx; with_reducible apply hnx; clear hnx nx))
  refine W_wk (τ := ⟨fr 13 [(5, .ptr nm 0), (1, pl b)], [(nm, ⟨79, false, 0, s.map pbyte⟩)]⟩) (by
    refine Wk_fr (by simp only [wkb, Nat.reduceEqDiff, Nat.reduceLT, ↓reduceIte]) ?_
    exact ⟨by simp, by simp [names]⟩) ?_
  refine W_x (τ := ⟨fr 13 [(5, .iptr (s.map pbyte) 0), (1, pl b)], []⟩) (freeze_arr (by simp) (by simp [frz, frz1])) ?_
  have ht : List.take 8 (s.map pbyte) = s.map pbyte := List.take_of_length_le (by simp [hl])
  repeat' (first
    | (with_reducible apply W_seq_k; intro nx hnx)
    | (with_reducible first | apply W_block | apply W_scope)
    | (with_reducible refine W_prune 51 ?_; simp only [prb, Nat.reducePow, Nat.reduceDiv, Nat.reduceMod, Nat.reduceBEq]; with_reducible apply W_region_l)
    | (with_reducible refine WL_born (by simp) rfl (by simp) ?_; simp only [elemsOf, nl, List.map_cons, List.map_nil, Nat.reduceEqDiff, ↓reduceIte, List.take_succ_cons, List.take_zero, List.range_succ, List.range_zero, List.nil_append, List.cons_append, List.map_append, List.drop_succ_cons, List.drop_zero, Nat.reduceMul, Nat.zero_mul, Nat.one_mul, Nat.reduceAdd])
    | ((first | (with_reducible apply WL_op; intro nx hnx) | with_reducible refine Ev_out ?_ | (with_reducible refine pfresh_k hnm fun nm hnm => ?_; (try simp only [fmb] at hnm)) | (with_reducible refine pborn_im ?_; simp only [elemsOf, nl, List.map_cons, List.map_nil, Nat.reduceEqDiff, ↓reduceIte, List.take_succ_cons, List.take_zero, List.range_succ, List.range_zero, List.nil_append, List.cons_append, List.map_append, List.drop_succ_cons, List.drop_zero, Nat.reduceMul, Nat.zero_mul, Nat.one_mul, Nat.reduceAdd])); try (simp (maxSteps := 2000000) (disch := omega) only [evb, evd, pbuiltin, constPV, pnck, seqK, blockK, scopeK, pbin, pun, ppick, plen, piaddr, pindex, pfield, pslice, pbound, pconv, pelems, pextract, pmm, PV.mem?, PV.one, PV.cells, pageq, peqs, peq1, pmakes, pstore, pbytes, pmark, psrc, pkey, pnile, pcap, pgrow, List.set, Value.cells, ↓popG_eq, ↓pop.eq_1, ↓List.getElem?_map, ↓List.getElem?_cons_zero, ↓List.getElem?_cons_succ, Value.oneCell', Nat.reduceAdd, Nat.reduceMul, Nat.reduceSub, Nat.reduceLeDiff, Nat.reduceEqDiff, ↓reduceIte, ne_eq, reduceCtorEq, forall_const, exists_and_left, exists_eq_left', eq_self, Nat.reduceLT, Int.reduceLT, Int.reduceLE, Int.reduceToNat, Int.reduceAdd, Int.reduceSub, Int.reduceNeg, hnm, Try.tf0, Try.tf2, Try.tf5, Try.tf22, Try.tf28, Try.tf33, Try.tf79, Try.teq79, Try.call41, Try.call42, hl, ho, ht, List.length_map, List.drop_zero]); repeat (refine And.intro (by omega) ?_))
    | ((with_reducible first | apply WL_nil | apply W_label | apply W_skip | apply W_exit | apply W_ret); try simp only [seqK, blockK, scopeK, ↓reduceIte, Nat.reduceEqDiff])
    | (with_reducible apply W_cond_k; intro _ _ ea eb; (simp only [condK, cob, opnd, constPV, Nat.reduceEqDiff, Nat.reduceLT, ↓reduceIte, hcb, reduceCtorEq, forall_const, ne_eq]); subst ea eb; first | (refine ⟨fun hc => ?_, fun hc => ?_⟩ <;> first | (exfalso; omega) | (exfalso; exact hc trivial) | skip) | skip)
    | (with_reducible apply hnx; clear hnx nx)
    | (with_reducible refine And.intro (by omega) ?_)
    | (with_reducible refine And.intro ?_ ?_)
    | (with_reducible refine pcall_k (c2) ?_; rintro _ _ ⟨rfl, rfl⟩ -; refine Ev_in ?_)
    | (clear hnx nx; with_reducible apply hnx; clear hnx nx)
    | (clear hnx nx; clear hnx nx; with_reducible apply hnx; clear hnx nx)
    | (clear hnx nx; clear hnx nx; clear hnx nx; with_reducible apply hnx; clear hnx nx))
  all_goals first
    | exact ho
    | exact rfl
    | (refine hfin _ _ (Fin_ret1 rfl (Sub_nil _) ?_); simp only [List.getD_cons_zero, List.getD_cons_succ, fr_getD_cons, fr_getD_nil, Nat.reduceEqDiff, Nat.reduceLT, ↓reduceIte]; first | trivial | exact ⟨rfl, by trivial⟩ | (simp; done) | (simp; omega))
theorem peqs_bytes : ∀ (n : Nat) (d e : List UInt8), d.length = n → e.length = n → peqs (List.replicate n (.int .u8)) (d.map pbyte) (e.map pbyte) = some (decide (d = e))
  | 0, [], [], _, _ => by simp [peqs]
  | n + 1, a :: d, b :: e, h1, h2 => by
    have ih := peqs_bytes n d e (by simpa using h1) (by simpa using h2)
    simp only [List.replicate_succ, List.map_cons, peqs, ih, peq1, if_true]
    congr 1
    have : ((a.toNat : Int) == (b.toNat : Int)) = decide (a = b) := by
      rw [Bool.eq_iff_iff]
      simp only [beq_iff_eq, decide_eq_true_eq]
      exact ⟨fun h => UInt8.toNat_inj.1 (Int.ofNat_inj.1 h), fun h => by rw [h]⟩
    rw [this]
    simp
theorem q8 (a b : List UInt8) (h1 : a.length = 8) (h2 : b.length = 8) : peqs [.int .u8, .int .u8, .int .u8, .int .u8, .int .u8, .int .u8, .int .u8, .int .u8] (a.map pbyte) (b.map pbyte) = some (decide (a = b)) := peqs_bytes 8 a b h1 h2
/-- What is opened of bytes: what was sealed, and the error. -/
def openF (key : UInt64) (b : List UInt8) : List UInt8 × Int :=
  if b.length < 8 then ([], 2)
  else if sealB key (b.take (b.length - 8)) = b.drop (b.length - 8) then (b.take (b.length - 8), 0)
  else ([], 9)
/-- Bytes and an error come back: memory that nobody turns, or none. -/
def OR (x : List UInt8 × Int) (res : PV) (H : Heap) : Prop := (x.1 = [] ∧ res = .tuple [pnil, pint .i64 x.2] ∧ H = []) ∨ (res = .tuple [pl x.1, pint .i64 x.2] ∧ H = [])
theorem OR.frz {G : Globs} {f : FuncId} {args : List PV} {x : List UInt8 × Int} (h : PCalls Try.prog G f args [] (OR x)) : PCalls Try.prog G f args [] (fun res H => res = .tuple [pl x.1, pint .i64 x.2] ∧ H = []) := by
  refine h.px fun res H hR => ?_
  rcases hR with ⟨h1, rfl, rfl⟩ | ⟨rfl, rfl⟩
  · refine ⟨_, _, Px.nil2 1 _ _, ?_, rfl⟩
    rw [h1]
    rfl
  · exact ⟨_, _, Px.refl _ _, rfl, rfl⟩
set_option maxRecDepth 100000 in
set_option maxHeartbeats 8000000 in
theorem Open_r (G : Globs) (key : UInt64) (b : List UInt8) (hb : b.length ≤ 4294900000) : PCalls Try.prog G 25 [pq key, pl b] [] (OR (openF key b)) := by
  by_cases h8 : b.length < 8
  · have hX : openF key b = ([], 2) := by rw [openF, if_pos h8]
    rw [hX]
    (refine PCalls_f Try.func25 rfl Try.ntmps25 Try.results25 (by simp) fun fin hfin => ?_; have hnm : True := trivial; simp (maxSteps := 2000000) (disch := omega) only [evb, evd, pbuiltin, constPV, pnck, seqK, blockK, scopeK, pbin, pun, ppick, plen, piaddr, pindex, pfield, pslice, pbound, pconv, pelems, pextract, pmm, PV.mem?, PV.one, PV.cells, pageq, peqs, peq1, pmakes, pstore, pbytes, pmark, psrc, pkey, pnile, pcap, pgrow, List.set, Value.cells, ↓popG_eq, ↓pop.eq_1, ↓List.getElem?_map, ↓List.getElem?_cons_zero, ↓List.getElem?_cons_succ, Value.oneCell', Nat.reduceAdd, Nat.reduceMul, Nat.reduceSub, Nat.reduceLeDiff, Nat.reduceEqDiff, ↓reduceIte, ne_eq, reduceCtorEq, forall_const, exists_and_left, exists_eq_left', eq_self, Nat.reduceLT, Int.reduceLT, Int.reduceLE, Int.reduceToNat, Int.reduceAdd, Int.reduceSub, Int.reduceNeg, hnm, Try.tf0, Try.tf3, Try.tf4, Try.tf5, Try.tf22, Try.tf33, Try.tf34, Try.tf79, Try.teq79, Try.call32, Try.call41])
    repeat' (first
    | (with_reducible apply W_seq_k; intro nx hnx)
    | (with_reducible first | apply W_block | apply W_scope)
    | (with_reducible refine W_prune 115 ?_; simp only [prb, Nat.reducePow, Nat.reduceDiv, Nat.reduceMod, Nat.reduceBEq]; first | (with_reducible apply W_region_l) | with_reducible refine W_region_draw (id := 4) 1 (.op 0 true (.op 1 true (.op 2 true (.op 3 true (.op 5 true (.op 6 true (.op 7 true (.op 8 true (.op 9 true (.op 4 true (.op 10 true (.done)))))))))))) (by kernel_rfl) ?_)
    | ((first | (with_reducible apply WL_op; intro nx hnx) | with_reducible refine Ev_out ?_ | (with_reducible apply popsD_op; intro nx hnx) | (with_reducible refine popsD_alt ?_ ?_; intro nx hnx) | (with_reducible refine pmaybe_k ?_; intro bn hbn)); try (simp (maxSteps := 2000000) (disch := omega) only [evb, evd, pbuiltin, constPV, pnck, seqK, blockK, scopeK, pbin, pun, ppick, plen, piaddr, pindex, pfield, pslice, pbound, pconv, pelems, pextract, pmm, PV.mem?, PV.one, PV.cells, pageq, peqs, peq1, pmakes, pstore, pbytes, pmark, psrc, pkey, pnile, pcap, pgrow, List.set, Value.cells, ↓popG_eq, ↓pop.eq_1, ↓List.getElem?_map, ↓List.getElem?_cons_zero, ↓List.getElem?_cons_succ, Value.oneCell', Nat.reduceAdd, Nat.reduceMul, Nat.reduceSub, Nat.reduceLeDiff, Nat.reduceEqDiff, ↓reduceIte, ne_eq, reduceCtorEq, forall_const, exists_and_left, exists_eq_left', eq_self, Nat.reduceLT, Int.reduceLT, Int.reduceLE, Int.reduceToNat, Int.reduceAdd, Int.reduceSub, Int.reduceNeg, hnm, Try.tf0, Try.tf3, Try.tf4, Try.tf5, Try.tf22, Try.tf33, Try.tf34, Try.tf79, Try.teq79, Try.call32, Try.call41]); repeat (refine And.intro (by omega) ?_))
    | ((with_reducible first | apply WL_nil | apply W_label | apply W_skip | apply W_exit | apply W_ret | apply popsD_done); try simp only [seqK, blockK, scopeK, ↓reduceIte, Nat.reduceEqDiff])
    | with_reducible exact popsD_stop
    | (with_reducible apply W_cond_k; intro _ _ ea eb; (simp only [condK, cob, opnd, constPV, Nat.reduceEqDiff, Nat.reduceLT, ↓reduceIte, hcb, reduceCtorEq, forall_const, ne_eq]); subst ea eb; first | (refine ⟨fun hc => ?_, fun hc => ?_⟩ <;> first | (exfalso; omega) | (exfalso; exact hc trivial) | skip) | skip)
    | (with_reducible apply hnx; clear hnx nx)
    | (with_reducible refine And.intro (by omega) ?_)
    | (with_reducible refine And.intro ?_ ?_)
    | (clear hnx nx; with_reducible apply hnx; clear hnx nx)
    | (clear hnx nx; clear hnx nx; with_reducible apply hnx; clear hnx nx)
    | (clear hnx nx; clear hnx nx; clear hnx nx; with_reducible apply hnx; clear hnx nx))
    all_goals first
      | (exfalso
         omega)
      | skip
    refine hfin _ _ (Fin_ret2 rfl rfl (Sub_nil _) ?_); simp only [List.getD_cons_zero, List.getD_cons_succ, fr_getD_cons, fr_getD_nil, Nat.reduceEqDiff, Nat.reduceLT, ↓reduceIte]
    exact .inl ⟨rfl, rfl, rfl⟩
  · have hX : openF key b = if sealB key (b.take (b.length - 8)) = b.drop (b.length - 8) then (b.take (b.length - 8), 0) else ([], 9) := by rw [openF, if_neg h8]
    rw [hX]
    obtain ⟨c, hc⟩ : ∃ c, c = b.take (b.length - 8) := ⟨_, rfl⟩
    obtain ⟨d, hd⟩ : ∃ d, d = b.drop (b.length - 8) := ⟨_, rfl⟩
    have hdl : d.length = 8 := by rw [hd, List.length_drop]; omega
    have hcl : c.length + 8 = b.length := by rw [hc, List.length_take]; omega
    have hsl := sealB_len key c
    have c1 := seal_c G key c (by omega)
    have c2 := clone_c G c (by omega)
    have hc2 : List.take (b.length - 8) (b.map pbyte) = c.map pbyte := by rw [hc, List.map_take]
    have hd2 : List.drop (b.length - 8) (b.map pbyte) = d.map pbyte := by rw [hd, List.map_drop]
    have hk : ((b.length : Int) - 8).toNat = b.length - 8 := by omega
    have htb : List.take b.length (b.map pbyte) = b.map pbyte := List.take_of_length_le (by simp)
    have hdt : List.take 8 (d.map pbyte) = d.map pbyte := List.take_of_length_le (by simp [hdl])
    have h1 := all_one_b d
    have hq := q8 (sealB key c) d hsl hdl
    rw [← hc, ← hd]
    generalize sealB key c = s at *
    clear hX
    (refine PCalls_f Try.func25 rfl Try.ntmps25 Try.results25 (by simp) fun fin hfin => ?_; have hnm : True := trivial; simp (maxSteps := 2000000) (disch := omega) only [evb, evd, pbuiltin, constPV, pnck, seqK, blockK, scopeK, pbin, pun, ppick, plen, piaddr, pindex, pfield, pslice, pbound, pconv, pelems, pextract, pmm, PV.mem?, PV.one, PV.cells, pageq, peqs, peq1, pmakes, pstore, pbytes, pmark, psrc, pkey, pnile, pcap, pgrow, List.set, Value.cells, ↓popG_eq, ↓pop.eq_1, ↓List.getElem?_map, ↓List.getElem?_cons_zero, ↓List.getElem?_cons_succ, Value.oneCell', Nat.reduceAdd, Nat.reduceMul, Nat.reduceSub, Nat.reduceLeDiff, Nat.reduceEqDiff, ↓reduceIte, ne_eq, reduceCtorEq, forall_const, exists_and_left, exists_eq_left', eq_self, Nat.reduceLT, Int.reduceLT, Int.reduceLE, Int.reduceToNat, Int.reduceAdd, Int.reduceSub, Int.reduceNeg, hnm, Try.tf0, Try.tf3, Try.tf4, Try.tf5, Try.tf22, Try.tf33, Try.tf34, Try.tf79, Try.teq79, Try.call32, Try.call41])
    repeat' (first
    | (with_reducible apply W_seq_k; intro nx hnx)
    | (with_reducible first | apply W_block | apply W_scope)
    | (with_reducible refine W_prune 115 ?_; simp only [prb, Nat.reducePow, Nat.reduceDiv, Nat.reduceMod, Nat.reduceBEq]; first | (with_reducible apply W_region_l) | with_reducible refine W_region_draw (id := 4) 1 (.op 0 true (.op 1 true (.op 2 true (.op 3 true (.op 5 true (.op 6 true (.op 7 true (.op 8 true (.op 9 true (.op 4 true (.op 10 true (.done)))))))))))) (by kernel_rfl) ?_)
    | ((first | (with_reducible apply WL_op; intro nx hnx) | with_reducible refine Ev_out ?_ | (with_reducible apply popsD_op; intro nx hnx) | (with_reducible refine popsD_alt ?_ ?_; intro nx hnx) | (with_reducible refine pmaybe_k ?_; intro bn hbn)); try (simp (maxSteps := 2000000) (disch := omega) only [evb, evd, pbuiltin, constPV, pnck, seqK, blockK, scopeK, pbin, pun, ppick, plen, piaddr, pindex, pfield, pslice, pbound, pconv, pelems, pextract, pmm, PV.mem?, PV.one, PV.cells, pageq, peqs, peq1, pmakes, pstore, pbytes, pmark, psrc, pkey, pnile, pcap, pgrow, List.set, Value.cells, ↓popG_eq, ↓pop.eq_1, ↓List.getElem?_map, ↓List.getElem?_cons_zero, ↓List.getElem?_cons_succ, Value.oneCell', Nat.reduceAdd, Nat.reduceMul, Nat.reduceSub, Nat.reduceLeDiff, Nat.reduceEqDiff, ↓reduceIte, ne_eq, reduceCtorEq, forall_const, exists_and_left, exists_eq_left', eq_self, Nat.reduceLT, Int.reduceLT, Int.reduceLE, Int.reduceToNat, Int.reduceAdd, Int.reduceSub, Int.reduceNeg, hnm, Try.tf0, Try.tf3, Try.tf4, Try.tf5, Try.tf22, Try.tf33, Try.tf34, Try.tf79, Try.teq79, Try.call32, Try.call41, hk, htb, hc2, hd2, hdt, hq, hdl, h1, flat_pb, List.length_map, List.drop_zero]); repeat (refine And.intro (by omega) ?_))
    | ((with_reducible first | apply WL_nil | apply W_label | apply W_skip | apply W_exit | apply W_ret | apply popsD_done); try simp only [seqK, blockK, scopeK, ↓reduceIte, Nat.reduceEqDiff])
    | with_reducible exact popsD_stop
    | (with_reducible apply W_cond_k; intro _ _ ea eb; (simp only [condK, cob, opnd, constPV, Nat.reduceEqDiff, Nat.reduceLT, ↓reduceIte, hcb, reduceCtorEq, forall_const, ne_eq]); subst ea eb; first | (refine ⟨fun hc => ?_, fun hc => ?_⟩ <;> first | (exfalso; omega) | (exfalso; exact hc trivial) | skip) | skip)
    | (with_reducible apply hnx; clear hnx nx)
    | (with_reducible refine And.intro (by omega) ?_)
    | (with_reducible refine And.intro ?_ ?_)
    | (with_reducible refine pcall_k (c1) ?_; rintro _ _ ⟨rfl, rfl⟩ -; refine Ev_in ?_)
    | (with_reducible refine pcall_k (c2) ?_; rintro _ _ ⟨rfl, rfl⟩ -; refine Ev_in ?_)
    | (clear hnx nx; with_reducible apply hnx; clear hnx nx)
    | (clear hnx nx; clear hnx nx; with_reducible apply hnx; clear hnx nx)
    | (clear hnx nx; clear hnx nx; clear hnx nx; with_reducible apply hnx; clear hnx nx))
    all_goals first
      | (exfalso
         omega)
      | skip
    · rw [if_neg hc] at hfin
      refine hfin _ _ (Fin_ret2 rfl rfl (Sub_nil _) ?_); simp only [List.getD_cons_zero, List.getD_cons_succ, fr_getD_cons, fr_getD_nil, Nat.reduceEqDiff, Nat.reduceLT, ↓reduceIte]
      exact .inl ⟨rfl, rfl, rfl⟩
    · rw [if_pos hc] at hfin
      refine hfin _ _ (Fin_ret2 rfl rfl (Sub_nil _) ?_); simp only [List.getD_cons_zero, List.getD_cons_succ, fr_getD_cons, fr_getD_nil, Nat.reduceEqDiff, Nat.reduceLT, ↓reduceIte]
      exact .inr ⟨rfl, rfl⟩
theorem Open_c (G : Globs) (key : UInt64) (b : List UInt8) (hb : b.length ≤ 4294900000) : PCalls Try.prog G 25 [pq key, pl b] [] (fun res H => res = .tuple [pl (openF key b).1, pint .i64 (openF key b).2] ∧ H = []) := OR.frz (Open_r G key b hb)
end Go.PM

namespace Go.PM
open Go.Proofs
attribute [local irreducible] W PCalls pcall pcallI WL
/-- What is decoded as a byte string. -/
def gS (b : List UInt8) : List UInt8 × Nat × Int :=
  if (gC 1 b).2.2 ≠ 0 then ([], 0, (gC 1 b).2.2) else ((b.drop (gC 1 b).2.1).take (gC 1 b).1.toNat, (gC 1 b).2.1 + (gC 1 b).1.toNat, 0)
@[reducible] def s3 (x : List UInt8 × Nat × Int) : PV := .tuple [pstr x.1, pint .i64 x.2.1, pint .i64 x.2.2]
theorem gC_ok {size : Nat} (hs : 1 ≤ size) {b : List UInt8} (h : (gC size b).2.2 = 0) :
    gI b = gC size b ∧ 0 ≤ (gC size b).1 ∧ (gC size b).2.1 ≤ b.length ∧ (gC size b).1 ≤ ((b.length - (gC size b).2.1 : Nat) : Int) / size ∧ (gC size b).1 * size ≤ (b.length : Int) - (gC size b).2.1 := by
  have hle := gI_le b
  unfold gC at h ⊢
  split at h
  · rename_i h1
    exact absurd h h1
  · rename_i h1
    rw [if_neg h1]
    split at h
    · simp at h
    · rename_i h2
      rw [if_neg h2]
      split at h
      · simp at h
      · rename_i h3
        rw [if_neg h3]
        refine ⟨rfl, by omega, hle, by omega, ?_⟩
        have h4 : (gI b).1 ≤ ((b.length - (gI b).2.1 : Nat) : Int) / size := by omega
        have h5 := Int.mul_le_mul_of_nonneg_right h4 (show (0 : Int) ≤ size by omega)
        have h6 := Int.ediv_mul_le ((b.length - (gI b).2.1 : Nat) : Int) (show (size : Int) ≠ 0 by omega)
        omega
theorem gC_e (size : Nat) (b : List UInt8) (hb : (b.length : Int) ≤ 4611686018427387904) : 0 ≤ (gC size b).2.2 ∧ (gC size b).2.2 ≤ 3 := by
  have := gI_vals b hb
  unfold gC
  split
  · exact ⟨this.2.2.1, this.2.2.2⟩
  · split
    · exact ⟨by simp, by simp⟩
    · split
      · exact ⟨by simp, by simp⟩
      · exact ⟨this.2.2.1, this.2.2.2⟩
theorem map_unb (l : List UInt8) : List.map unb (List.map pbyte l) = l := bytes_unb l
theorem all_isByte (l : List UInt8) : (List.map pbyte l).all isByte = true := bytes_isByte l
set_option maxRecDepth 100000 in
set_option maxHeartbeats 8000000 in
theorem getBytes_c (G : Globs) (b : List UInt8) (hb : (b.length : Int) ≤ 4294967296) :
    PCalls Try.prog G 47 [.list 1 (b.map pbyte)] [] (fun res H => res = s3 (gS b) ∧ H = []) := by
  (refine PCalls_f Try.func47 rfl Try.ntmps47 Try.results47 (by simp) fun fin hfin => ?_; have hnm : True := trivial; simp (maxSteps := 2000000) (disch := omega) only [evb, evd, pbuiltin, constPV, pnck, seqK, blockK, scopeK, pbin, pun, ppick, plen, piaddr, pindex, pfield, pslice, pbound, pconv, pelems, pextract, pmm, PV.mem?, PV.one, PV.cells, pageq, peqs, peq1, pmakes, pstore, pbytes, pmark, psrc, pkey, pnile, pcap, pgrow, List.set, Value.cells, ↓popG_eq, ↓pop.eq_1, ↓List.getElem?_map, ↓List.getElem?_cons_zero, ↓List.getElem?_cons_succ, Value.oneCell', Nat.reduceAdd, Nat.reduceMul, Nat.reduceSub, Nat.reduceLeDiff, Nat.reduceEqDiff, ↓reduceIte, ne_eq, reduceCtorEq, forall_const, exists_and_left, exists_eq_left', eq_self, Nat.reduceLT, Int.reduceLT, Int.reduceLE, Int.reduceToNat, Int.reduceAdd, Int.reduceSub, Int.reduceNeg, hnm, Try.tf0, Try.tf1, Try.tf2, Try.tf3, Try.tf4, Try.tf5, Try.tf9, Try.tf33, Try.tf34, Try.teq79, Try.tf88, Try.call52])
  repeat' (first
    | (with_reducible apply W_seq_k; intro nx hnx)
    | (with_reducible first | apply W_block | apply W_scope)
    | (with_reducible refine W_prune 253 ?_; simp only [prb, Nat.reducePow, Nat.reduceDiv, Nat.reduceMod, Nat.reduceBEq]; with_reducible apply W_region_l)
    | ((first | (with_reducible apply WL_op; intro nx hnx) | with_reducible refine Ev_out ?_ | (with_reducible refine pfresh_k hnm fun nm hnm => ?_; (try simp only [fmb] at hnm)) | (with_reducible refine pborn_mu hnm fun nm hnm => ?_; (try simp only [fmb] at hnm))); try (simp (maxSteps := 2000000) (disch := omega) only [evb, evd, pbuiltin, constPV, pnck, seqK, blockK, scopeK, pbin, pun, ppick, plen, piaddr, pindex, pfield, pslice, pbound, pconv, pelems, pextract, pmm, PV.mem?, PV.one, PV.cells, pageq, peqs, peq1, pmakes, pstore, pbytes, pmark, psrc, pkey, pnile, pcap, pgrow, List.set, Value.cells, ↓popG_eq, ↓pop.eq_1, ↓List.getElem?_map, ↓List.getElem?_cons_zero, ↓List.getElem?_cons_succ, Value.oneCell', Nat.reduceAdd, Nat.reduceMul, Nat.reduceSub, Nat.reduceLeDiff, Nat.reduceEqDiff, ↓reduceIte, ne_eq, reduceCtorEq, forall_const, exists_and_left, exists_eq_left', eq_self, Nat.reduceLT, Int.reduceLT, Int.reduceLE, Int.reduceToNat, Int.reduceAdd, Int.reduceSub, Int.reduceNeg, hnm, Try.tf0, Try.tf1, Try.tf2, Try.tf3, Try.tf4, Try.tf5, Try.tf9, Try.tf33, Try.tf34, Try.teq79, Try.tf88, Try.call52]); repeat (refine And.intro (by omega) ?_))
    | ((with_reducible first | apply WL_nil | apply W_label | apply W_skip | apply W_exit | apply W_ret); try simp only [seqK, blockK, scopeK, ↓reduceIte, Nat.reduceEqDiff])
    | (with_reducible apply W_cond_k; intro _ _ ea eb; (simp only [condK, cob, opnd, constPV, Nat.reduceEqDiff, Nat.reduceLT, ↓reduceIte, hcb, reduceCtorEq, forall_const, ne_eq]); subst ea eb; first | (refine ⟨fun hc => ?_, fun hc => ?_⟩ <;> first | (exfalso; omega) | (exfalso; exact hc trivial) | skip) | skip)
    | (with_reducible apply hnx; clear hnx nx)
    | (with_reducible refine And.intro (by omega) ?_)
    | (with_reducible refine And.intro ?_ ?_)
    | (clear hnx nx; with_reducible apply hnx; clear hnx nx)
    | (clear hnx nx; clear hnx nx; with_reducible apply hnx; clear hnx nx)
    | (clear hnx nx; clear hnx nx; clear hnx nx; with_reducible apply hnx; clear hnx nx))
  refine pcall_k (count_c G b 1 (by omega) (by omega) (by omega)) ?_
  rintro _ _ ⟨⟨n, u, rfl, hok⟩, rfl⟩ -
  have he := gC_e 1 b (by omega)
  have hgok := gC_ok (size := 1) (by omega) (b := b)
  have hgS : gS b = if (gC 1 b).2.2 ≠ 0 then ([], 0, (gC 1 b).2.2) else ((b.drop (gC 1 b).2.1).take (gC 1 b).1.toNat, (gC 1 b).2.1 + (gC 1 b).1.toNat, 0) := rfl
  generalize gC 1 b = x at hok he hgok hgS ⊢
  obtain ⟨k, a, e⟩ := x
  simp only at hok he hgok hgS ⊢
  by_cases hez : e = 0
  · subst hez
    obtain ⟨h1, h2⟩ := hok rfl
    obtain ⟨h3, h4, h5, h6, h7⟩ := hgok rfl
    obtain ⟨k', rfl⟩ : ∃ k' : Nat, k = k' := ⟨k.toNat, by omega⟩
    subst h1
    subst h2
    have hmid : List.drop a (List.take (a + k') (b.map pbyte)) = ((b.drop a).take k').map pbyte := by
      rw [List.drop_take, List.map_take, List.map_drop, show a + k' - a = k' by omega]
    have ht : ((a : Int) + (k' : Int)).toNat = a + k' := by omega
    refine Ev_in ?_
    repeat' (first
    | (with_reducible apply W_seq_k; intro nx hnx)
    | (with_reducible first | apply W_block | apply W_scope)
    | (with_reducible refine W_prune 253 ?_; simp only [prb, Nat.reducePow, Nat.reduceDiv, Nat.reduceMod, Nat.reduceBEq]; with_reducible apply W_region_l)
    | ((first | (with_reducible apply WL_op; intro nx hnx) | with_reducible refine Ev_out ?_ | (with_reducible refine pfresh_k hnm fun nm hnm => ?_; (try simp only [fmb] at hnm)) | (with_reducible refine pborn_mu hnm fun nm hnm => ?_; (try simp only [fmb] at hnm))); try (simp (maxSteps := 2000000) (disch := omega) only [evb, evd, pbuiltin, constPV, pnck, seqK, blockK, scopeK, pbin, pun, ppick, plen, piaddr, pindex, pfield, pslice, pbound, pconv, pelems, pextract, pmm, PV.mem?, PV.one, PV.cells, pageq, peqs, peq1, pmakes, pstore, pbytes, pmark, psrc, pkey, pnile, pcap, pgrow, List.set, Value.cells, ↓popG_eq, ↓pop.eq_1, ↓List.getElem?_map, ↓List.getElem?_cons_zero, ↓List.getElem?_cons_succ, Value.oneCell', Nat.reduceAdd, Nat.reduceMul, Nat.reduceSub, Nat.reduceLeDiff, Nat.reduceEqDiff, ↓reduceIte, ne_eq, reduceCtorEq, forall_const, exists_and_left, exists_eq_left', eq_self, Nat.reduceLT, Int.reduceLT, Int.reduceLE, Int.reduceToNat, Int.reduceAdd, Int.reduceSub, Int.reduceNeg, hnm, Try.tf0, Try.tf1, Try.tf2, Try.tf3, Try.tf4, Try.tf5, Try.tf9, Try.tf33, Try.tf34, Try.teq79, Try.tf88, Try.call52, ht, hmid, all_isByte, map_unb]); repeat (refine And.intro (by omega) ?_))
    | ((with_reducible first | apply WL_nil | apply W_label | apply W_skip | apply W_exit | apply W_ret); try simp only [seqK, blockK, scopeK, ↓reduceIte, Nat.reduceEqDiff])
    | (with_reducible apply W_cond_k; intro _ _ ea eb; (simp only [condK, cob, opnd, constPV, Nat.reduceEqDiff, Nat.reduceLT, ↓reduceIte, hcb, reduceCtorEq, forall_const, ne_eq]); subst ea eb; first | (refine ⟨fun hc => ?_, fun hc => ?_⟩ <;> first | (exfalso; omega) | (exfalso; exact hc trivial) | skip) | skip)
    | (with_reducible apply hnx; clear hnx nx)
    | (with_reducible refine And.intro (by omega) ?_)
    | (with_reducible refine And.intro ?_ ?_)
    | (clear hnx nx; with_reducible apply hnx; clear hnx nx)
    | (clear hnx nx; clear hnx nx; with_reducible apply hnx; clear hnx nx)
    | (clear hnx nx; clear hnx nx; clear hnx nx; with_reducible apply hnx; clear hnx nx))
    all_goals first
      | exact rfl
      | (exfalso
         omega)
      | skip
    refine hfin _ _ (Fin_ret3 rfl rfl rfl (Sub_nil _) ?_); simp only [List.getD_cons_zero, List.getD_cons_succ, fr_getD_cons, fr_getD_nil, Nat.reduceEqDiff, Nat.reduceLT, ↓reduceIte]
    refine ⟨?_, by trivial⟩
    rw [hgS, if_neg (by simp)]
    simp
  · (simp only [PState.put, fr_set, List.nil_append, List.append_nil]; try simp (maxSteps := 2000000) (disch := omega) only [evb, evd, pbuiltin, constPV, pnck, seqK, blockK, scopeK, pbin, pun, ppick, plen, piaddr, pindex, pfield, pslice, pbound, pconv, pelems, pextract, pmm, PV.mem?, PV.one, PV.cells, pageq, peqs, peq1, pmakes, pstore, pbytes, pmark, psrc, pkey, pnile, pcap, pgrow, List.set, Value.cells, ↓popG_eq, ↓pop.eq_1, ↓List.getElem?_map, ↓List.getElem?_cons_zero, ↓List.getElem?_cons_succ, Value.oneCell', Nat.reduceAdd, Nat.reduceMul, Nat.reduceSub, Nat.reduceLeDiff, Nat.reduceEqDiff, ↓reduceIte, ne_eq, reduceCtorEq, forall_const, exists_and_left, exists_eq_left', eq_self, Nat.reduceLT, Int.reduceLT, Int.reduceLE, Int.reduceToNat, Int.reduceAdd, Int.reduceSub, Int.reduceNeg, hnm, Try.tf0, Try.tf1, Try.tf2, Try.tf3, Try.tf4, Try.tf5, Try.tf9, Try.tf33, Try.tf34, Try.teq79, Try.tf88, Try.call52])
    repeat' (first
    | (with_reducible apply W_seq_k; intro nx hnx)
    | (with_reducible first | apply W_block | apply W_scope)
    | (with_reducible refine W_prune 253 ?_; simp only [prb, Nat.reducePow, Nat.reduceDiv, Nat.reduceMod, Nat.reduceBEq]; with_reducible apply W_region_l)
    | ((first | (with_reducible apply WL_op; intro nx hnx) | with_reducible refine Ev_out ?_ | (with_reducible refine pfresh_k hnm fun nm hnm => ?_; (try simp only [fmb] at hnm)) | (with_reducible refine pborn_mu hnm fun nm hnm => ?_; (try simp only [fmb] at hnm))); try (simp (maxSteps := 2000000) (disch := omega) only [evb, evd, pbuiltin, constPV, pnck, seqK, blockK, scopeK, pbin, pun, ppick, plen, piaddr, pindex, pfield, pslice, pbound, pconv, pelems, pextract, pmm, PV.mem?, PV.one, PV.cells, pageq, peqs, peq1, pmakes, pstore, pbytes, pmark, psrc, pkey, pnile, pcap, pgrow, List.set, Value.cells, ↓popG_eq, ↓pop.eq_1, ↓List.getElem?_map, ↓List.getElem?_cons_zero, ↓List.getElem?_cons_succ, Value.oneCell', Nat.reduceAdd, Nat.reduceMul, Nat.reduceSub, Nat.reduceLeDiff, Nat.reduceEqDiff, ↓reduceIte, ne_eq, reduceCtorEq, forall_const, exists_and_left, exists_eq_left', eq_self, Nat.reduceLT, Int.reduceLT, Int.reduceLE, Int.reduceToNat, Int.reduceAdd, Int.reduceSub, Int.reduceNeg, hnm, Try.tf0, Try.tf1, Try.tf2, Try.tf3, Try.tf4, Try.tf5, Try.tf9, Try.tf33, Try.tf34, Try.teq79, Try.tf88, Try.call52]); repeat (refine And.intro (by omega) ?_))
    | ((with_reducible first | apply WL_nil | apply W_label | apply W_skip | apply W_exit | apply W_ret); try simp only [seqK, blockK, scopeK, ↓reduceIte, Nat.reduceEqDiff])
    | (with_reducible apply W_cond_k; intro _ _ ea eb; (simp only [condK, cob, opnd, constPV, Nat.reduceEqDiff, Nat.reduceLT, ↓reduceIte, hcb, reduceCtorEq, forall_const, ne_eq]); subst ea eb; first | (refine ⟨fun hc => ?_, fun hc => ?_⟩ <;> first | (exfalso; omega) | (exfalso; exact hc trivial) | skip) | skip)
    | (with_reducible apply hnx; clear hnx nx)
    | (with_reducible refine And.intro (by omega) ?_)
    | (with_reducible refine And.intro ?_ ?_)
    | (clear hnx nx; with_reducible apply hnx; clear hnx nx)
    | (clear hnx nx; clear hnx nx; with_reducible apply hnx; clear hnx nx)
    | (clear hnx nx; clear hnx nx; clear hnx nx; with_reducible apply hnx; clear hnx nx))
    all_goals first
      | (exfalso
         omega)
      | skip
    refine hfin _ _ (Fin_ret3 rfl rfl rfl (Sub_nil _) ?_); simp only [List.getD_cons_zero, List.getD_cons_succ, fr_getD_cons, fr_getD_nil, Nat.reduceEqDiff, Nat.reduceLT, ↓reduceIte]
    refine ⟨?_, by trivial⟩
    rw [hgS, if_pos hez]
    rfl
end Go.PM

namespace Go.PM
open Go.Proofs
attribute [local irreducible] W PCalls pcall pcallI WL
section
variable {α : Type}
/-- What is decoded of so many elements, one after the other. -/
def gL (g : List UInt8 → α × Nat × Int) : Nat → List UInt8 → List α × Nat × Int
  | 0, _ => ([], 0, 0)
  | k + 1, b => if (g b).2.2 ≠ 0 then ([], 0, (g b).2.2)
    else if (gL g k (b.drop (g b).2.1)).2.2 ≠ 0 then ([], 0, (gL g k (b.drop (g b).2.1)).2.2)
    else ((g b).1 :: (gL g k (b.drop (g b).2.1)).1, (g b).2.1 + (gL g k (b.drop (g b).2.1)).2.1, 0)
def comb (pre : List α) (a : Nat) (r : List α × Nat × Int) : List α × Nat × Int := if r.2.2 ≠ 0 then ([], 0, r.2.2) else (pre ++ r.1, a + r.2.1, 0)
/-- What is decoded of a list. -/
def gLs (g : List UInt8 → α × Nat × Int) (size : Nat) (b : List UInt8) : List α × Nat × Int :=
  if (gC size b).2.2 ≠ 0 then ([], 0, (gC size b).2.2) else comb [] (gC size b).2.1 (gL g (gC size b).1.toNat (b.drop (gC size b).2.1))
theorem comb_nil (g : List UInt8 → α × Nat × Int) (pre : List α) (a : Nat) (b : List UInt8) : comb pre a (gL g 0 b) = (pre, a, 0) := by simp [comb, gL]
theorem comb_err (g : List UInt8 → α × Nat × Int) (pre : List α) (a m : Nat) (b : List UInt8) (h : (g b).2.2 ≠ 0) : comb pre a (gL g (m + 1) b) = ([], 0, (g b).2.2) := by
  rw [gL, if_pos h, comb, if_pos h]
theorem comb_ok (g : List UInt8 → α × Nat × Int) (pre : List α) (a m : Nat) (b : List UInt8) (h : (g b).2.2 = 0) : comb pre a (gL g (m + 1) b) = comb (pre ++ [(g b).1]) (a + (g b).2.1) (gL g m (b.drop (g b).2.1)) := by
  rw [gL, if_neg (by rw [h]; simp)]
  by_cases h2 : (gL g m (b.drop (g b).2.1)).2.2 = 0
  · rw [if_neg (by rw [h2]; simp)]
    unfold comb
    rw [if_neg (by simp), if_neg (by rw [h2]; simp)]
    simp [Nat.add_assoc]
  · rw [if_pos h2]
    unfold comb
    rw [if_pos h2, if_pos h2]
theorem comb_norm (pre : List α) (a : Nat) (r : List α × Nat × Int) (h : (comb pre a r).2.2 ≠ 0) : (comb pre a r).1 = [] ∧ (comb pre a r).2.1 = 0 := by
  unfold comb at h ⊢
  split at h
  · rename_i h1
    rw [if_pos h1]
    exact ⟨rfl, rfl⟩
  · simp at h
theorem gLs_norm (g : List UInt8 → α × Nat × Int) (size : Nat) (b : List UInt8) (h : (gLs g size b).2.2 ≠ 0) : (gLs g size b).1 = [] ∧ (gLs g size b).2.1 = 0 := by
  unfold gLs at h ⊢
  split at h
  · rename_i h1
    rw [if_pos h1]
    exact ⟨rfl, rfl⟩
  · rename_i h1
    rw [if_neg h1]
    exact comb_norm _ _ _ h
/-- A list that was built, or none. -/
def LR (cf : List α → List PV) (ty : TypeId) (es : Nat) (x : List α × Nat × Int) (res : PV) (H : Heap) : Prop :=
  (x.2.2 ≠ 0 ∧ res = .tuple [pnil, pint .i64 (0 : Nat), pint .i64 x.2.2] ∧ H = []) ∨
  (x.2.2 = 0 ∧ ∃ N, res = .tuple [.row N es x.1.length, pint .i64 x.2.1, pint .i64 0] ∧ H = [(N, ⟨ty, true, es, cf x.1⟩)])
theorem Px.nil3 {G : Globs} (es : Nat) (q r : PV) (H : Heap) : Px G (.tuple [pnil, q, r]) H (.tuple [.list es [], q, r]) H := fun _ _ A _ w v hs hr => by
  refine ⟨A, hs, ?_⟩
  cases hr with
  | tuple cs f h2 =>
    refine .tuple [.list es [], q, r] f fun j u hu => ?_
    cases j with
    | zero =>
      cases hu
      exact nil_list es (h2 0 pnil rfl)
    | succ j => exact h2 (j + 1) u hu
theorem LR.frz {G : Globs} {f : FuncId} {args : List PV} {cf : List α → List PV} {pv : α → PV} {ty : TypeId} {es : Nat} {x : List α × Nat × Int}
    (h : PCalls Try.prog G f args [] (LR cf ty es x)) (hes : 0 < es) (hn : x.2.2 ≠ 0 → x.1 = [] ∧ x.2.1 = 0) (hlen : x.1.length * es ≤ (cf x.1).length) (hel : elemsOf es (cf x.1) x.1.length = x.1.map pv) :
    PCalls Try.prog G f args [] (fun res H => res = .tuple [.list es (x.1.map pv), pint .i64 x.2.1, pint .i64 x.2.2] ∧ H = []) := by
  refine h.px fun res H hR => ?_
  rcases hR with ⟨he, rfl, rfl⟩ | ⟨he, N, rfl, rfl⟩
  · obtain ⟨h1, h2⟩ := hn he
    refine ⟨_, _, Px.nil3 es _ _ _, ?_, rfl⟩
    rw [h1, h2]
    rfl
  · have h2 := Px.freeze (G := G) (.tuple [.row N es x.1.length, pint .i64 x.2.1, pint .i64 0]) [(N, ⟨ty, true, es, cf x.1⟩)] N (o := ⟨ty, true, es, cf x.1⟩) (by simp only [look, if_true]) (by simp [frzOk, del])
    refine ⟨_, _, h2, ?_, by simp [frzH, del]⟩
    simp only [PM.frz, frz1, if_true, List.map_cons, List.map_nil]
    rw [if_pos ⟨hlen, hes⟩, hel, he]
end
theorem elems_one {α : Type} (f : α → PV) (l : List α) : elemsOf 1 (l.map f) l.length = l.map f := by
  rw [elemsOf, if_pos rfl, List.take_of_length_le (by simp)]
end Go.PM

namespace Go.PM
open Go.Proofs
attribute [local irreducible] W PCalls pcall pcallI WL
theorem gS_le (b : List UInt8) (hb : (b.length : Int) ≤ 4611686018427387904) : (gS b).2.1 ≤ b.length := by
  have h := gC_ok (size := 1) (by omega) (b := b)
  unfold gS
  split
  · simp
  · rename_i h1
    have h2 := h (by omega)
    simp only
    omega
end Go.PM

namespace Go.PM
open Go.Proofs
attribute [local irreducible] W PCalls pcall pcallI WL
theorem reader_c (G : Globs) (b : List UInt8) (a : Nat) :
    PCalls Try.prog G 53 [.list 1 (b.map pbyte), pint .i64 a] [] (fun res H => ∃ N1 N2 : Int, N1 ≠ N2 ∧ res = .func 57 [.ptr N1 0, .ptr N2 0] ∧ H = [(N1, ⟨33, false, 0, [.list 1 (b.map pbyte)]⟩), (N2, ⟨3, false, 0, [pint .i64 a]⟩)]) := by
  (refine PCalls_f Try.func53 rfl Try.ntmps53 Try.results53 (by simp) fun fin hfin => ?_; have hnm : True := trivial; simp (maxSteps := 2000000) (disch := omega) only [evb, evd, pbuiltin, constPV, pnck, seqK, blockK, scopeK, pbin, pun, ppick, plen, piaddr, pindex, pfield, pslice, pbound, pconv, pelems, pextract, pmm, PV.mem?, PV.one, PV.cells, pageq, peqs, peq1, pmakes, pstore, pbytes, pmark, psrc, pkey, pnile, pcap, pgrow, List.set, Value.cells, ↓popG_eq, ↓pop.eq_1, ↓List.getElem?_map, ↓List.getElem?_cons_zero, ↓List.getElem?_cons_succ, Value.oneCell', Nat.reduceAdd, Nat.reduceMul, Nat.reduceSub, Nat.reduceLeDiff, Nat.reduceEqDiff, ↓reduceIte, ne_eq, reduceCtorEq, forall_const, exists_and_left, exists_eq_left', eq_self, Nat.reduceLT, Int.reduceLT, Int.reduceLE, Int.reduceToNat, Int.reduceAdd, Int.reduceSub, Int.reduceNeg, hnm, Try.tf0, Try.tf3, Try.tf5, Try.tf33, Try.teq79, Try.tf90])
  repeat' (first
    | (with_reducible apply W_seq_k; intro nx hnx)
    | (with_reducible first | apply W_block | apply W_scope)
    | (with_reducible refine W_prune 31 ?_; simp only [prb, Nat.reducePow, Nat.reduceDiv, Nat.reduceMod, Nat.reduceBEq]; with_reducible apply W_region_l)
    | ((first | (with_reducible apply WL_op; intro nx hnx) | with_reducible refine Ev_out ?_ | (with_reducible refine pfresh_k hnm fun nm hnm => ?_; (try simp only [fmb] at hnm)) | (with_reducible refine pborn_mu hnm fun nm hnm => ?_; (try simp only [fmb] at hnm))); try (simp (maxSteps := 2000000) (disch := omega) only [evb, evd, pbuiltin, constPV, pnck, seqK, blockK, scopeK, pbin, pun, ppick, plen, piaddr, pindex, pfield, pslice, pbound, pconv, pelems, pextract, pmm, PV.mem?, PV.one, PV.cells, pageq, peqs, peq1, pmakes, pstore, pbytes, pmark, psrc, pkey, pnile, pcap, pgrow, List.set, Value.cells, ↓popG_eq, ↓pop.eq_1, ↓List.getElem?_map, ↓List.getElem?_cons_zero, ↓List.getElem?_cons_succ, Value.oneCell', Nat.reduceAdd, Nat.reduceMul, Nat.reduceSub, Nat.reduceLeDiff, Nat.reduceEqDiff, ↓reduceIte, ne_eq, reduceCtorEq, forall_const, exists_and_left, exists_eq_left', eq_self, Nat.reduceLT, Int.reduceLT, Int.reduceLE, Int.reduceToNat, Int.reduceAdd, Int.reduceSub, Int.reduceNeg, hnm, Try.tf0, Try.tf3, Try.tf5, Try.tf33, Try.teq79, Try.tf90]); repeat (refine And.intro (by omega) ?_))
    | ((with_reducible first | apply WL_nil | apply W_label | apply W_skip | apply W_exit | apply W_ret); try simp only [seqK, blockK, scopeK, ↓reduceIte, Nat.reduceEqDiff])
    | (with_reducible apply W_cond_k; intro _ _ ea eb; (simp only [condK, cob, opnd, constPV, Nat.reduceEqDiff, Nat.reduceLT, ↓reduceIte, hcb, reduceCtorEq, forall_const, ne_eq]); subst ea eb; first | (refine ⟨fun hc => ?_, fun hc => ?_⟩ <;> first | (exfalso; omega) | (exfalso; exact hc trivial) | skip) | skip)
    | (with_reducible apply hnx; clear hnx nx)
    | (with_reducible refine And.intro (by omega) ?_)
    | (with_reducible refine And.intro ?_ ?_)
    | (clear hnx nx; with_reducible apply hnx; clear hnx nx)
    | (clear hnx nx; clear hnx nx; with_reducible apply hnx; clear hnx nx)
    | (clear hnx nx; clear hnx nx; clear hnx nx; with_reducible apply hnx; clear hnx nx))
  rename_i n1 _
  obtain ⟨n2, hn2⟩ : ∃ n2, n2 = nm := ⟨_, rfl⟩
  subst hn2
  refine hfin _ _ (Fin_ret1 rfl (H := [(n1, ⟨33, false, 0, [.list 1 (b.map pbyte)]⟩), (n2, ⟨3, false, 0, [pint .i64 a]⟩)]) ⟨by simp, by simp [names, hnm]⟩ ?_)
  simp only [fr_getD_cons, fr_getD_nil, Nat.reduceEqDiff, Nat.reduceLT, ↓reduceIte]
  exact ⟨n1, n2, by simp only [ne_eq, hnm, not_false_eq_true], rfl, rfl⟩
theorem read_c (G : Globs) (b : List UInt8) (hb : (b.length : Int) ≤ 4294967296) (a : Nat) (ha : a ≤ b.length) (N1 N2 : Int) (hN : N1 ≠ N2) :
    PCalls Try.prog G 57 [.ptr N1 0, .ptr N2 0] [(N1, ⟨33, false, 0, [.list 1 (b.map pbyte)]⟩), (N2, ⟨3, false, 0, [pint .i64 a]⟩)]
      (fun res H => res = t3 ((gI (b.drop a)).1, a + (gI (b.drop a)).2.1, (gI (b.drop a)).2.2) ∧ H = [(N1, ⟨33, false, 0, [.list 1 (b.map pbyte)]⟩), (N2, ⟨3, false, 0, [pint .i64 ((a + (gI (b.drop a)).2.1 : Nat) : Int)]⟩)]) := by
  have hN1 : ¬ N1 = N2 := hN
  have hN2 : ¬ N2 = N1 := fun e => hN e.symm
  obtain ⟨c, hcd⟩ : ∃ c, c = b.drop a := ⟨_, rfl⟩
  have hcl : c.length + a = b.length := by rw [hcd, List.length_drop]; omega
  have hcm : List.drop a (List.take b.length (b.map pbyte)) = c.map pbyte := by
    rw [List.take_of_length_le (by simp), hcd, List.map_drop]
  rw [← hcd]
  (refine PCalls_f Try.func57 rfl Try.ntmps57 Try.results57 (by simp) fun fin hfin => ?_; have hnm : True := trivial; simp (maxSteps := 2000000) (disch := omega) only [evb, evd, pbuiltin, constPV, pnck, seqK, blockK, scopeK, pbin, pun, ppick, plen, piaddr, pindex, pfield, pslice, pbound, pconv, pelems, pextract, pmm, PV.mem?, PV.one, PV.cells, pageq, peqs, peq1, pmakes, pstore, pbytes, pmark, psrc, pkey, pnile, pcap, pgrow, List.set, Value.cells, ↓popG_eq, ↓pop.eq_1, ↓List.getElem?_map, ↓List.getElem?_cons_zero, ↓List.getElem?_cons_succ, Value.oneCell', Nat.reduceAdd, Nat.reduceMul, Nat.reduceSub, Nat.reduceLeDiff, Nat.reduceEqDiff, ↓reduceIte, ne_eq, reduceCtorEq, forall_const, exists_and_left, exists_eq_left', eq_self, Nat.reduceLT, Int.reduceLT, Int.reduceLE, Int.reduceToNat, Int.reduceAdd, Int.reduceSub, Int.reduceNeg, hnm, Try.tf0, Try.tf1, Try.tf2, Try.tf3, Try.tf5, Try.tf33, Try.tf34, Try.teq79, Try.tf88, Try.call56])
  repeat' (first
    | (with_reducible apply W_seq_k; intro nx hnx)
    | (with_reducible first | apply W_block | apply W_scope)
    | (with_reducible refine W_prune 255 ?_; simp only [prb, Nat.reducePow, Nat.reduceDiv, Nat.reduceMod, Nat.reduceBEq]; first | (with_reducible apply W_region_l) | with_reducible refine W_region_draw (id := 3) 1 (.op 0 true (.op 1 true (.op 2 true (.op 3 true (.op 4 true (.op 5 true (.done))))))) (by kernel_rfl) ?_)
    | ((first | (with_reducible apply WL_op; intro nx hnx) | with_reducible refine Ev_out ?_ | (with_reducible apply popsD_op; intro nx hnx) | (with_reducible refine popsD_alt ?_ ?_; intro nx hnx)); try (simp (maxSteps := 2000000) (disch := omega) only [evb, evd, pbuiltin, constPV, pnck, seqK, blockK, scopeK, pbin, pun, ppick, plen, piaddr, pindex, pfield, pslice, pbound, pconv, pelems, pextract, pmm, PV.mem?, PV.one, PV.cells, pageq, peqs, peq1, pmakes, pstore, pbytes, pmark, psrc, pkey, pnile, pcap, pgrow, List.set, Value.cells, ↓popG_eq, ↓pop.eq_1, ↓List.getElem?_map, ↓List.getElem?_cons_zero, ↓List.getElem?_cons_succ, Value.oneCell', Nat.reduceAdd, Nat.reduceMul, Nat.reduceSub, Nat.reduceLeDiff, Nat.reduceEqDiff, ↓reduceIte, ne_eq, reduceCtorEq, forall_const, exists_and_left, exists_eq_left', eq_self, Nat.reduceLT, Int.reduceLT, Int.reduceLE, Int.reduceToNat, Int.reduceAdd, Int.reduceSub, Int.reduceNeg, hnm, Try.tf0, Try.tf1, Try.tf2, Try.tf3, Try.tf5, Try.tf33, Try.tf34, Try.teq79, Try.tf88, Try.call56, hN1, hN2, hcm]); repeat (refine And.intro (by omega) ?_))
    | ((with_reducible first | apply WL_nil | apply W_label | apply W_skip | apply W_exit | apply W_ret | apply popsD_done); try simp only [seqK, blockK, scopeK, ↓reduceIte, Nat.reduceEqDiff])
    | with_reducible exact popsD_stop
    | (with_reducible apply W_cond_k; intro _ _ ea eb; (simp only [condK, cob, opnd, constPV, Nat.reduceEqDiff, Nat.reduceLT, ↓reduceIte, hcb, reduceCtorEq, forall_const, ne_eq]); subst ea eb; first | (refine ⟨fun hc => ?_, fun hc => ?_⟩ <;> first | (exfalso; omega) | (exfalso; exact hc trivial) | skip) | skip)
    | (with_reducible apply hnx; clear hnx nx)
    | (with_reducible refine And.intro (by omega) ?_)
    | (with_reducible refine And.intro ?_ ?_)
    | (clear hnx nx; with_reducible apply hnx; clear hnx nx)
    | (clear hnx nx; clear hnx nx; with_reducible apply hnx; clear hnx nx)
    | (clear hnx nx; clear hnx nx; clear hnx nx; with_reducible apply hnx; clear hnx nx))
  have hgl := gI_le c
  have hge := gI_vals c (by omega)
  refine pcall_k (getInt_c G c (by omega)) ?_
  rintro _ _ ⟨rfl, rfl⟩ -
  generalize gI c = y at hgl hge hfin ⊢
  obtain ⟨x, u, e⟩ := y
  simp only at hgl hge hfin ⊢
  have hau : (a : Int) + (u : Int) = ((a + u : Nat) : Int) := by omega
  refine Ev_in ?_
  repeat' (first
    | (with_reducible apply W_seq_k; intro nx hnx)
    | (with_reducible first | apply W_block | apply W_scope)
    | (with_reducible refine W_prune 255 ?_; simp only [prb, Nat.reducePow, Nat.reduceDiv, Nat.reduceMod, Nat.reduceBEq]; first | (with_reducible apply W_region_l) | with_reducible refine W_region_draw (id := 3) 1 (.op 0 true (.op 1 true (.op 2 true (.op 3 true (.op 4 true (.op 5 true (.done))))))) (by kernel_rfl) ?_)
    | ((first | (with_reducible apply WL_op; intro nx hnx) | with_reducible refine Ev_out ?_ | (with_reducible apply popsD_op; intro nx hnx) | (with_reducible refine popsD_alt ?_ ?_; intro nx hnx)); try (simp (maxSteps := 2000000) (disch := omega) only [evb, evd, pbuiltin, constPV, pnck, seqK, blockK, scopeK, pbin, pun, ppick, plen, piaddr, pindex, pfield, pslice, pbound, pconv, pelems, pextract, pmm, PV.mem?, PV.one, PV.cells, pageq, peqs, peq1, pmakes, pstore, pbytes, pmark, psrc, pkey, pnile, pcap, pgrow, List.set, Value.cells, ↓popG_eq, ↓pop.eq_1, ↓List.getElem?_map, ↓List.getElem?_cons_zero, ↓List.getElem?_cons_succ, Value.oneCell', Nat.reduceAdd, Nat.reduceMul, Nat.reduceSub, Nat.reduceLeDiff, Nat.reduceEqDiff, ↓reduceIte, ne_eq, reduceCtorEq, forall_const, exists_and_left, exists_eq_left', eq_self, Nat.reduceLT, Int.reduceLT, Int.reduceLE, Int.reduceToNat, Int.reduceAdd, Int.reduceSub, Int.reduceNeg, hnm, Try.tf0, Try.tf1, Try.tf2, Try.tf3, Try.tf5, Try.tf33, Try.tf34, Try.teq79, Try.tf88, Try.call56, hN1, hN2, hau]); repeat (refine And.intro (by omega) ?_))
    | ((with_reducible first | apply WL_nil | apply W_label | apply W_skip | apply W_exit | apply W_ret | apply popsD_done); try simp only [seqK, blockK, scopeK, ↓reduceIte, Nat.reduceEqDiff])
    | with_reducible exact popsD_stop
    | (with_reducible apply W_cond_k; intro _ _ ea eb; (simp only [condK, cob, opnd, constPV, Nat.reduceEqDiff, Nat.reduceLT, ↓reduceIte, hcb, reduceCtorEq, forall_const, ne_eq]); subst ea eb; first | (refine ⟨fun hc => ?_, fun hc => ?_⟩ <;> first | (exfalso; omega) | (exfalso; exact hc trivial) | skip) | skip)
    | (with_reducible apply hnx; clear hnx nx)
    | (with_reducible refine And.intro (by omega) ?_)
    | (with_reducible refine And.intro ?_ ?_)
    | (clear hnx nx; with_reducible apply hnx; clear hnx nx)
    | (clear hnx nx; clear hnx nx; with_reducible apply hnx; clear hnx nx)
    | (clear hnx nx; clear hnx nx; clear hnx nx; with_reducible apply hnx; clear hnx nx))
  all_goals first
    | (exfalso
       omega)
    | (refine hfin _ _ (Fin_ret3 rfl rfl rfl (Sub_refl (by simp [names, hN1])) ?_)
       simp only [List.getD_cons_zero, List.getD_cons_succ, fr_getD_cons, fr_getD_nil, Nat.reduceEqDiff, Nat.reduceLT, ↓reduceIte]
       trivial)
set_option maxRecDepth 100000 in
set_option maxHeartbeats 8000000 in
theorem getInts_r (G : Globs) (b : List UInt8) (hb : (b.length : Int) ≤ 4294967296) :
    PCalls Try.prog G 46 [.list 1 (b.map pbyte)] [] (LR (List.map (pint .i64)) 3 1 (gLs gI 1 b)) := by
  (refine PCalls_f Try.func46 rfl Try.ntmps46 Try.results46 (by simp) fun fin hfin => ?_; have hnm : True := trivial; simp (maxSteps := 2000000) (disch := omega) only [evb, evd, pbuiltin, constPV, pnck, seqK, blockK, scopeK, pbin, pun, ppick, plen, piaddr, pindex, pfield, pslice, pbound, pconv, pelems, pextract, pmm, PV.mem?, PV.one, PV.cells, pageq, peqs, peq1, pmakes, pstore, pbytes, pmark, psrc, pkey, pnile, pcap, pgrow, List.set, Value.cells, ↓popG_eq, ↓pop.eq_1, ↓List.getElem?_map, ↓List.getElem?_cons_zero, ↓List.getElem?_cons_succ, Value.oneCell', Nat.reduceAdd, Nat.reduceMul, Nat.reduceSub, Nat.reduceLeDiff, Nat.reduceEqDiff, ↓reduceIte, ne_eq, reduceCtorEq, forall_const, exists_and_left, exists_eq_left', eq_self, Nat.reduceLT, Int.reduceLT, Int.reduceLE, Int.reduceToNat, Int.reduceAdd, Int.reduceSub, Int.reduceNeg, hnm, Try.tf0, Try.tf1, Try.tf2, Try.tf3, Try.tf4, Try.tf5, Try.tf23, Try.tf33, Try.tf34, Try.teq79, Try.tf88, Try.tf90, Try.call52, Try.call53])
  repeat' (first
    | (with_reducible apply W_seq_k; intro nx hnx)
    | (with_reducible first | apply W_block | apply W_scope)
    | (with_reducible refine W_prune 100671485 ?_; simp only [prb, Nat.reducePow, Nat.reduceDiv, Nat.reduceMod, Nat.reduceBEq]; with_reducible apply W_region_l)
    | ((first | (with_reducible apply WL_op; intro nx hnx) | with_reducible refine Ev_out ?_ | (with_reducible refine pfresh_k hnm fun nm hnm => ?_; (try simp only [fmb] at hnm)) | (with_reducible refine pborn_mu hnm fun nm hnm => ?_; (try simp only [fmb] at hnm)) | (with_reducible refine pmaybe_k ?_; intro bn hbn)); try (simp (maxSteps := 2000000) (disch := omega) only [evb, evd, pbuiltin, constPV, pnck, seqK, blockK, scopeK, pbin, pun, ppick, plen, piaddr, pindex, pfield, pslice, pbound, pconv, pelems, pextract, pmm, PV.mem?, PV.one, PV.cells, pageq, peqs, peq1, pmakes, pstore, pbytes, pmark, psrc, pkey, pnile, pcap, pgrow, List.set, Value.cells, ↓popG_eq, ↓pop.eq_1, ↓List.getElem?_map, ↓List.getElem?_cons_zero, ↓List.getElem?_cons_succ, Value.oneCell', Nat.reduceAdd, Nat.reduceMul, Nat.reduceSub, Nat.reduceLeDiff, Nat.reduceEqDiff, ↓reduceIte, ne_eq, reduceCtorEq, forall_const, exists_and_left, exists_eq_left', eq_self, Nat.reduceLT, Int.reduceLT, Int.reduceLE, Int.reduceToNat, Int.reduceAdd, Int.reduceSub, Int.reduceNeg, hnm, Try.tf0, Try.tf1, Try.tf2, Try.tf3, Try.tf4, Try.tf5, Try.tf23, Try.tf33, Try.tf34, Try.teq79, Try.tf88, Try.tf90, Try.call52, Try.call53]); repeat (refine And.intro (by omega) ?_))
    | ((with_reducible first | apply WL_nil | apply W_label | apply W_skip | apply W_exit | apply W_ret); try simp only [seqK, blockK, scopeK, ↓reduceIte, Nat.reduceEqDiff])
    | (with_reducible apply W_cond_k; intro _ _ ea eb; (simp only [condK, cob, opnd, constPV, Nat.reduceEqDiff, Nat.reduceLT, ↓reduceIte, hcb, reduceCtorEq, forall_const, ne_eq]); subst ea eb; first | (refine ⟨fun hc => ?_, fun hc => ?_⟩ <;> first | (exfalso; omega) | (exfalso; exact hc trivial) | skip) | skip)
    | (with_reducible apply hnx; clear hnx nx)
    | (with_reducible refine And.intro (by omega) ?_)
    | (with_reducible refine And.intro ?_ ?_)
    | (clear hnx nx; with_reducible apply hnx; clear hnx nx)
    | (clear hnx nx; clear hnx nx; with_reducible apply hnx; clear hnx nx)
    | (clear hnx nx; clear hnx nx; clear hnx nx; with_reducible apply hnx; clear hnx nx))
  refine pcall_k (count_c G b 1 (by omega) (by omega) (by omega)) ?_
  rintro _ _ ⟨⟨n, u, rfl, hok⟩, rfl⟩ -
  have he := gC_e 1 b (by omega)
  have hgok := gC_ok (size := 1) (by omega) (b := b)
  have hgS : gLs gI 1 b = if (gC 1 b).2.2 ≠ 0 then ([], 0, (gC 1 b).2.2) else comb [] (gC 1 b).2.1 (gL gI (gC 1 b).1.toNat (b.drop (gC 1 b).2.1)) := rfl
  generalize gLs gI 1 b = X at hfin hgS
  generalize gC 1 b = x at hok he hgok hgS ⊢
  obtain ⟨k, a, e⟩ := x
  simp only at hok he hgok hgS ⊢
  by_cases hez : e = 0
  · subst hez
    obtain ⟨h1, h2⟩ := hok rfl
    obtain ⟨h3, h4, h5, h6, h7⟩ := hgok rfl
    clear hok hgok
    obtain ⟨n, rfl⟩ : ∃ k' : Nat, k = k' := ⟨k.toNat, by omega⟩
    subst h1
    subst h2
    rw [if_neg (by simp), Int.toNat_natCast] at hgS
    refine Ev_in ?_
    repeat' (first
    | (with_reducible apply W_seq_k; intro nx hnx)
    | (with_reducible first | apply W_block | apply W_scope)
    | (with_reducible refine W_prune 100671485 ?_; simp only [prb, Nat.reducePow, Nat.reduceDiv, Nat.reduceMod, Nat.reduceBEq]; with_reducible apply W_region_l)
    | ((first | (with_reducible apply WL_op; intro nx hnx) | with_reducible refine Ev_out ?_ | (with_reducible refine pfresh_k hnm fun nm hnm => ?_; (try simp only [fmb] at hnm)) | (with_reducible refine pborn_mu hnm fun nm hnm => ?_; (try simp only [fmb] at hnm)) | (with_reducible refine pmaybe_k ?_; intro bn hbn)); try (simp (maxSteps := 2000000) (disch := omega) only [evb, evd, pbuiltin, constPV, pnck, seqK, blockK, scopeK, pbin, pun, ppick, plen, piaddr, pindex, pfield, pslice, pbound, pconv, pelems, pextract, pmm, PV.mem?, PV.one, PV.cells, pageq, peqs, peq1, pmakes, pstore, pbytes, pmark, psrc, pkey, pnile, pcap, pgrow, List.set, Value.cells, ↓popG_eq, ↓pop.eq_1, ↓List.getElem?_map, ↓List.getElem?_cons_zero, ↓List.getElem?_cons_succ, Value.oneCell', Nat.reduceAdd, Nat.reduceMul, Nat.reduceSub, Nat.reduceLeDiff, Nat.reduceEqDiff, ↓reduceIte, ne_eq, reduceCtorEq, forall_const, exists_and_left, exists_eq_left', eq_self, Nat.reduceLT, Int.reduceLT, Int.reduceLE, Int.reduceToNat, Int.reduceAdd, Int.reduceSub, Int.reduceNeg, hnm, Try.tf0, Try.tf1, Try.tf2, Try.tf3, Try.tf4, Try.tf5, Try.tf23, Try.tf33, Try.tf34, Try.teq79, Try.tf88, Try.tf90, Try.call52, Try.call53]); repeat (refine And.intro (by omega) ?_))
    | ((with_reducible first | apply WL_nil | apply W_label | apply W_skip | apply W_exit | apply W_ret); try simp only [seqK, blockK, scopeK, ↓reduceIte, Nat.reduceEqDiff])
    | (with_reducible apply W_cond_k; intro _ _ ea eb; (simp only [condK, cob, opnd, constPV, Nat.reduceEqDiff, Nat.reduceLT, ↓reduceIte, hcb, reduceCtorEq, forall_const, ne_eq]); subst ea eb; first | (refine ⟨fun hc => ?_, fun hc => ?_⟩ <;> first | (exfalso; omega) | (exfalso; exact hc trivial) | skip) | skip)
    | (with_reducible apply hnx; clear hnx nx)
    | (with_reducible refine And.intro (by omega) ?_)
    | (with_reducible refine And.intro ?_ ?_)
    | (clear hnx nx; with_reducible apply hnx; clear hnx nx)
    | (clear hnx nx; clear hnx nx; with_reducible apply hnx; clear hnx nx)
    | (clear hnx nx; clear hnx nx; clear hnx nx; with_reducible apply hnx; clear hnx nx))
    all_goals first
      | (exfalso
         omega)
      | skip
    refine pcall_k (reader_c G b a) ?_
    rintro _ _ ⟨N1, N2, hN, rfl, rfl⟩ -
    have hN1 : ¬ N1 = N2 := hN
    have hN2 : ¬ N2 = N1 := fun e => hN e.symm
    refine Ev_in ?_
    repeat' (first
    | (with_reducible apply W_seq_k; intro nx hnx)
    | (with_reducible first | apply W_block | apply W_scope)
    | (with_reducible refine W_prune 100671485 ?_; simp only [prb, Nat.reducePow, Nat.reduceDiv, Nat.reduceMod, Nat.reduceBEq]; with_reducible apply W_region_l)
    | ((first | (with_reducible apply WL_op; intro nx hnx) | with_reducible refine Ev_out ?_ | (with_reducible refine pfresh_k hnm fun nm hnm => ?_; (try simp only [fmb] at hnm)) | (with_reducible refine pborn_mu hnm fun nm hnm => ?_; (try simp only [fmb] at hnm)) | (with_reducible refine pmaybe_k ?_; intro bn hbn)); try (simp (maxSteps := 2000000) (disch := omega) only [evb, evd, pbuiltin, constPV, pnck, seqK, blockK, scopeK, pbin, pun, ppick, plen, piaddr, pindex, pfield, pslice, pbound, pconv, pelems, pextract, pmm, PV.mem?, PV.one, PV.cells, pageq, peqs, peq1, pmakes, pstore, pbytes, pmark, psrc, pkey, pnile, pcap, pgrow, List.set, Value.cells, ↓popG_eq, ↓pop.eq_1, ↓List.getElem?_map, ↓List.getElem?_cons_zero, ↓List.getElem?_cons_succ, Value.oneCell', Nat.reduceAdd, Nat.reduceMul, Nat.reduceSub, Nat.reduceLeDiff, Nat.reduceEqDiff, ↓reduceIte, ne_eq, reduceCtorEq, forall_const, exists_and_left, exists_eq_left', eq_self, Nat.reduceLT, Int.reduceLT, Int.reduceLE, Int.reduceToNat, Int.reduceAdd, Int.reduceSub, Int.reduceNeg, hnm, Try.tf0, Try.tf1, Try.tf2, Try.tf3, Try.tf4, Try.tf5, Try.tf23, Try.tf33, Try.tf34, Try.teq79, Try.tf88, Try.tf90, Try.call52, Try.call53, hN1, hN2]); repeat (refine And.intro (by omega) ?_))
    | ((with_reducible first | apply WL_nil | apply W_label | apply W_skip | apply W_exit | apply W_ret); try simp only [seqK, blockK, scopeK, ↓reduceIte, Nat.reduceEqDiff])
    | (with_reducible apply W_cond_k; intro _ _ ea eb; (simp only [condK, cob, opnd, constPV, Nat.reduceEqDiff, Nat.reduceLT, ↓reduceIte, hcb, reduceCtorEq, forall_const, ne_eq]); subst ea eb; first | (refine ⟨fun hc => ?_, fun hc => ?_⟩ <;> first | (exfalso; omega) | (exfalso; exact hc trivial) | skip) | skip)
    | (with_reducible apply hnx; clear hnx nx)
    | (with_reducible refine And.intro (by omega) ?_)
    | (with_reducible refine And.intro ?_ ?_)
    | (clear hnx nx; with_reducible apply hnx; clear hnx nx)
    | (clear hnx nx; clear hnx nx; with_reducible apply hnx; clear hnx nx)
    | (clear hnx nx; clear hnx nx; clear hnx nx; with_reducible apply hnx; clear hnx nx))
    refine W_adopt_f 9 3 1 (by simp only [fr_getD_cons, Nat.reduceEqDiff, Nat.reduceLT, ↓reduceIte]) fun N0 hN0 => ?_
    have hN01 : N0 ≠ N1 ∧ N0 ≠ N2 := by
      simp [names] at hN0
      exact hN0
    refine W_loop_k (fun z τ => ∃ (pre : List Int) (a : Nat) (N : Int), pre.length ≤ n ∧ z = n - pre.length ∧ a ≤ b.length ∧ X = comb pre a (gL gI (n - pre.length) (b.drop a)) ∧ N ≠ N1 ∧ N ≠ N2 ∧ τ = ⟨fr 45 [(6, pint .i64 a), (8, .func 57 [.ptr N1 0, .ptr N2 0]), (9, .row N 1 pre.length), (25, pint .i64 n), (26, pint .i64 pre.length)], [(N, ⟨3, true, 1, pre.map (pint .i64)⟩), (N1, ⟨33, false, 0, [.list 1 (b.map pbyte)]⟩), (N2, ⟨3, false, 0, [pint .i64 a]⟩)]⟩) n ⟨fr 45 [(6, pint .i64 a), (8, .func 57 [.ptr N1 0, .ptr N2 0]), (9, .row N0 1 0), (25, pint .i64 n), (26, pint .i64 (0 : Nat))], [(N0, ⟨3, true, 1, []⟩), (N1, ⟨33, false, 0, [.list 1 (b.map pbyte)]⟩), (N2, ⟨3, false, 0, [pint .i64 a]⟩)]⟩ (by
      refine Wk_fr (by simp only [wkb, Nat.reduceEqDiff, Nat.reduceLT, ↓reduceIte]) ?_
      exact ⟨by simp, by simp [names, hN1, hN01]⟩) ⟨[], a, N0, by simp, by simp, h5, hgS, hN01.1, hN01.2, rfl⟩ ?_
    clear hgS
    rintro z τ ⟨pre, a, N, hp, rfl, ha, hX, hNa, hNb, rfl⟩ lp hlp
    have hNa1 : ¬ N = N1 := hNa
    have hNa2 : ¬ N1 = N := fun e => hNa e.symm
    have hNb1 : ¬ N = N2 := hNb
    have hNb2 : ¬ N2 = N := fun e => hNb e.symm
    by_cases hi : pre.length < n
    · have hcl : (b.drop a).length + a = b.length := by rw [List.length_drop]; omega
      have hgl := gI_le (b.drop a)
      have hge := gI_vals (b.drop a) (by omega)
      have hc1 := comb_err gI pre a (n - (pre.length + 1)) (b.drop a)
      have hc2 := comb_ok gI pre a (n - (pre.length + 1)) (b.drop a)
      rw [show n - pre.length = n - (pre.length + 1) + 1 by omega] at hX
      rw [← hX] at hc1 hc2
      repeat' (first
    | (with_reducible apply W_seq_k; intro nx hnx)
    | (with_reducible first | apply W_block | apply W_scope)
    | (with_reducible refine W_prune 100671485 ?_; simp only [prb, Nat.reducePow, Nat.reduceDiv, Nat.reduceMod, Nat.reduceBEq]; with_reducible apply W_region_l)
    | ((first | (with_reducible apply WL_op; intro nx hnx) | with_reducible refine Ev_out ?_ | (with_reducible refine pfresh_k hnm fun nm hnm => ?_; (try simp only [fmb] at hnm)) | (with_reducible refine pborn_mu hnm fun nm hnm => ?_; (try simp only [fmb] at hnm)) | (with_reducible refine pmaybe_k ?_; intro bn hbn)); try (simp (maxSteps := 2000000) (disch := omega) only [evb, evd, pbuiltin, constPV, pnck, seqK, blockK, scopeK, pbin, pun, ppick, plen, piaddr, pindex, pfield, pslice, pbound, pconv, pelems, pextract, pmm, PV.mem?, PV.one, PV.cells, pageq, peqs, peq1, pmakes, pstore, pbytes, pmark, psrc, pkey, pnile, pcap, pgrow, List.set, Value.cells, ↓popG_eq, ↓pop.eq_1, ↓List.getElem?_map, ↓List.getElem?_cons_zero, ↓List.getElem?_cons_succ, Value.oneCell', Nat.reduceAdd, Nat.reduceMul, Nat.reduceSub, Nat.reduceLeDiff, Nat.reduceEqDiff, ↓reduceIte, ne_eq, reduceCtorEq, forall_const, exists_and_left, exists_eq_left', eq_self, Nat.reduceLT, Int.reduceLT, Int.reduceLE, Int.reduceToNat, Int.reduceAdd, Int.reduceSub, Int.reduceNeg, hnm, Try.tf0, Try.tf1, Try.tf2, Try.tf3, Try.tf4, Try.tf5, Try.tf23, Try.tf33, Try.tf34, Try.teq79, Try.tf88, Try.tf90, Try.call52, Try.call53, hN1, hN2, hNa1, hNa2, hNb1, hNb2]); repeat (refine And.intro (by omega) ?_))
    | ((with_reducible first | apply WL_nil | apply W_label | apply W_skip | apply W_exit | apply W_ret); try simp only [seqK, blockK, scopeK, ↓reduceIte, Nat.reduceEqDiff])
    | (with_reducible apply W_cond_k; intro _ _ ea eb; (simp only [condK, cob, opnd, constPV, Nat.reduceEqDiff, Nat.reduceLT, ↓reduceIte, hcb, reduceCtorEq, forall_const, ne_eq]); subst ea eb; first | (refine ⟨fun hc => ?_, fun hc => ?_⟩ <;> first | (exfalso; omega) | (exfalso; exact hc trivial) | skip) | skip)
    | (with_reducible apply hnx; clear hnx nx)
    | (with_reducible refine And.intro (by omega) ?_)
    | (with_reducible refine And.intro ?_ ?_)
    | (clear hnx nx; with_reducible apply hnx; clear hnx nx)
    | (clear hnx nx; clear hnx nx; with_reducible apply hnx; clear hnx nx)
    | (clear hnx nx; clear hnx nx; clear hnx nx; with_reducible apply hnx; clear hnx nx))
      all_goals first
        | exact Go.PM.Try.call57
        | (exfalso
           omega)
        | skip
      refine pcall_own [(N1, ⟨33, false, 0, [.list 1 (b.map pbyte)]⟩), (N2, ⟨3, false, 0, [pint .i64 a]⟩)] [(N, ⟨3, true, 1, pre.map (pint .i64)⟩)] (read_c G b hb a ha N1 N2 hN) ?_ (by simp [names, hN1]) ?_ (by simp [names]) ?_
      · simp
      · simp [names, hNa1, hNb1]
      rintro _ _ ⟨rfl, rfl⟩ -
      generalize gI (b.drop a) = y at hgl hge hc1 hc2 ⊢
      obtain ⟨x, u, e⟩ := y
      simp only at hgl hge hc1 hc2 ⊢
      refine Ev_in ?_
      repeat' (first
    | (with_reducible apply W_seq_k; intro nx hnx)
    | (with_reducible first | apply W_block | apply W_scope)
    | (with_reducible refine W_prune 100671485 ?_; simp only [prb, Nat.reducePow, Nat.reduceDiv, Nat.reduceMod, Nat.reduceBEq]; with_reducible apply W_region_l)
    | ((first | (with_reducible apply WL_op; intro nx hnx) | with_reducible refine Ev_out ?_ | (with_reducible refine pfresh_k hnm fun nm hnm => ?_; (try simp only [fmb] at hnm)) | (with_reducible refine pborn_mu hnm fun nm hnm => ?_; (try simp only [fmb] at hnm)) | (with_reducible refine pmaybe_k ?_; intro bn hbn)); try (simp (maxSteps := 2000000) (disch := omega) only [evb, evd, pbuiltin, constPV, pnck, seqK, blockK, scopeK, pbin, pun, ppick, plen, piaddr, pindex, pfield, pslice, pbound, pconv, pelems, pextract, pmm, PV.mem?, PV.one, PV.cells, pageq, peqs, peq1, pmakes, pstore, pbytes, pmark, psrc, pkey, pnile, pcap, pgrow, List.set, Value.cells, ↓popG_eq, ↓pop.eq_1, ↓List.getElem?_map, ↓List.getElem?_cons_zero, ↓List.getElem?_cons_succ, Value.oneCell', Nat.reduceAdd, Nat.reduceMul, Nat.reduceSub, Nat.reduceLeDiff, Nat.reduceEqDiff, ↓reduceIte, ne_eq, reduceCtorEq, forall_const, exists_and_left, exists_eq_left', eq_self, Nat.reduceLT, Int.reduceLT, Int.reduceLE, Int.reduceToNat, Int.reduceAdd, Int.reduceSub, Int.reduceNeg, hnm, Try.tf0, Try.tf1, Try.tf2, Try.tf3, Try.tf4, Try.tf5, Try.tf23, Try.tf33, Try.tf34, Try.teq79, Try.tf88, Try.tf90, Try.call52, Try.call53, hN1, hN2, hNa1, hNa2, hNb1, hNb2]); repeat (refine And.intro (by omega) ?_))
    | ((with_reducible first | apply WL_nil | apply W_label | apply W_skip | apply W_exit | apply W_ret); try simp only [seqK, blockK, scopeK, ↓reduceIte, Nat.reduceEqDiff])
    | (with_reducible apply W_cond_k; intro _ _ ea eb; (simp only [condK, cob, opnd, constPV, Nat.reduceEqDiff, Nat.reduceLT, ↓reduceIte, hcb, reduceCtorEq, forall_const, ne_eq]); subst ea eb; first | (refine ⟨fun hc => ?_, fun hc => ?_⟩ <;> first | (exfalso; omega) | (exfalso; exact hc trivial) | skip) | skip)
    | (with_reducible apply hnx; clear hnx nx)
    | (with_reducible refine And.intro (by omega) ?_)
    | (with_reducible refine And.intro ?_ ?_)
    | (clear hnx nx; with_reducible apply hnx; clear hnx nx)
    | (clear hnx nx; clear hnx nx; with_reducible apply hnx; clear hnx nx)
    | (clear hnx nx; clear hnx nx; clear hnx nx; with_reducible apply hnx; clear hnx nx))
      all_goals first
        | (have hX2 := hc1 hc
           refine hfin _ _ (Fin_ret3 rfl rfl rfl (Sub_nil _) ?_); simp only [List.getD_cons_zero, List.getD_cons_succ, fr_getD_cons, fr_getD_nil, Nat.reduceEqDiff, Nat.reduceLT, ↓reduceIte]
           subst hX2
           exact .inl ⟨hc, rfl, by trivial⟩)
        | (have hX2 := hc2 hc
           have hM1 : nm ≠ N1 := by simp only [ne_eq, hnm, not_false_eq_true]
           have hM2 : nm ≠ N2 := by simp only [ne_eq, hnm, not_false_eq_true]
           refine hlp _ (n - (pre.length + 1)) _ (by omega) ?_ ⟨pre ++ [x], a + u, nm, by simp; omega, by simp, by omega, ?_, hM1, hM2, rfl⟩
           · refine Wk_fr (by simp only [wkb, Nat.reduceEqDiff, Nat.reduceLT, ↓reduceIte, List.length_append, List.length_cons, List.length_nil, Nat.zero_add]) ?_
             refine ⟨fun x hx => ?_, by simp [names, hM1, hM2, hN1]⟩
             simp only [List.mem_cons, List.not_mem_nil, or_false] at hx ⊢
             rcases hx with rfl | rfl | rfl
             · left
               rw [List.map_append]
               rfl
             · exact .inr (.inr (.inl rfl))
             · exact .inr (.inr (.inr rfl))
           · rw [hX2, List.drop_drop, List.length_append]
             rfl)
    · rw [show n - pre.length = 0 by omega, comb_nil] at hX
      repeat' (first
    | (with_reducible apply W_seq_k; intro nx hnx)
    | (with_reducible first | apply W_block | apply W_scope)
    | (with_reducible refine W_prune 100671485 ?_; simp only [prb, Nat.reducePow, Nat.reduceDiv, Nat.reduceMod, Nat.reduceBEq]; with_reducible apply W_region_l)
    | ((first | (with_reducible apply WL_op; intro nx hnx) | with_reducible refine Ev_out ?_ | (with_reducible refine pfresh_k hnm fun nm hnm => ?_; (try simp only [fmb] at hnm)) | (with_reducible refine pborn_mu hnm fun nm hnm => ?_; (try simp only [fmb] at hnm)) | (with_reducible refine pmaybe_k ?_; intro bn hbn)); try (simp (maxSteps := 2000000) (disch := omega) only [evb, evd, pbuiltin, constPV, pnck, seqK, blockK, scopeK, pbin, pun, ppick, plen, piaddr, pindex, pfield, pslice, pbound, pconv, pelems, pextract, pmm, PV.mem?, PV.one, PV.cells, pageq, peqs, peq1, pmakes, pstore, pbytes, pmark, psrc, pkey, pnile, pcap, pgrow, List.set, Value.cells, ↓popG_eq, ↓pop.eq_1, ↓List.getElem?_map, ↓List.getElem?_cons_zero, ↓List.getElem?_cons_succ, Value.oneCell', Nat.reduceAdd, Nat.reduceMul, Nat.reduceSub, Nat.reduceLeDiff, Nat.reduceEqDiff, ↓reduceIte, ne_eq, reduceCtorEq, forall_const, exists_and_left, exists_eq_left', eq_self, Nat.reduceLT, Int.reduceLT, Int.reduceLE, Int.reduceToNat, Int.reduceAdd, Int.reduceSub, Int.reduceNeg, hnm, Try.tf0, Try.tf1, Try.tf2, Try.tf3, Try.tf4, Try.tf5, Try.tf23, Try.tf33, Try.tf34, Try.teq79, Try.tf88, Try.tf90, Try.call52, Try.call53, hN1, hN2, hNa1, hNa2, hNb1, hNb2]); repeat (refine And.intro (by omega) ?_))
    | ((with_reducible first | apply WL_nil | apply W_label | apply W_skip | apply W_exit | apply W_ret); try simp only [seqK, blockK, scopeK, ↓reduceIte, Nat.reduceEqDiff])
    | (with_reducible apply W_cond_k; intro _ _ ea eb; (simp only [condK, cob, opnd, constPV, Nat.reduceEqDiff, Nat.reduceLT, ↓reduceIte, hcb, reduceCtorEq, forall_const, ne_eq]); subst ea eb; first | (refine ⟨fun hc => ?_, fun hc => ?_⟩ <;> first | (exfalso; omega) | (exfalso; exact hc trivial) | skip) | skip)
    | (with_reducible apply hnx; clear hnx nx)
    | (with_reducible refine And.intro (by omega) ?_)
    | (with_reducible refine And.intro ?_ ?_)
    | (clear hnx nx; with_reducible apply hnx; clear hnx nx)
    | (clear hnx nx; clear hnx nx; with_reducible apply hnx; clear hnx nx)
    | (clear hnx nx; clear hnx nx; clear hnx nx; with_reducible apply hnx; clear hnx nx))
      all_goals first
        | (exfalso
           omega)
        | skip
      refine hfin _ _ (Fin_ret3 rfl rfl rfl (H := [(N, ⟨3, true, 1, pre.map (pint .i64)⟩)]) ⟨by simp, by simp [names]⟩ ?_)
      simp only [List.getD_cons_zero, List.getD_cons_succ, fr_getD_cons, fr_getD_nil, Nat.reduceEqDiff, Nat.reduceLT, ↓reduceIte]
      subst hX
      exact .inr ⟨rfl, N, rfl, rfl⟩
  · rw [if_pos hez] at hgS
    refine Ev_in ?_
    repeat' (first
    | (with_reducible apply W_seq_k; intro nx hnx)
    | (with_reducible first | apply W_block | apply W_scope)
    | (with_reducible refine W_prune 100671485 ?_; simp only [prb, Nat.reducePow, Nat.reduceDiv, Nat.reduceMod, Nat.reduceBEq]; with_reducible apply W_region_l)
    | ((first | (with_reducible apply WL_op; intro nx hnx) | with_reducible refine Ev_out ?_ | (with_reducible refine pfresh_k hnm fun nm hnm => ?_; (try simp only [fmb] at hnm)) | (with_reducible refine pborn_mu hnm fun nm hnm => ?_; (try simp only [fmb] at hnm)) | (with_reducible refine pmaybe_k ?_; intro bn hbn)); try (simp (maxSteps := 2000000) (disch := omega) only [evb, evd, pbuiltin, constPV, pnck, seqK, blockK, scopeK, pbin, pun, ppick, plen, piaddr, pindex, pfield, pslice, pbound, pconv, pelems, pextract, pmm, PV.mem?, PV.one, PV.cells, pageq, peqs, peq1, pmakes, pstore, pbytes, pmark, psrc, pkey, pnile, pcap, pgrow, List.set, Value.cells, ↓popG_eq, ↓pop.eq_1, ↓List.getElem?_map, ↓List.getElem?_cons_zero, ↓List.getElem?_cons_succ, Value.oneCell', Nat.reduceAdd, Nat.reduceMul, Nat.reduceSub, Nat.reduceLeDiff, Nat.reduceEqDiff, ↓reduceIte, ne_eq, reduceCtorEq, forall_const, exists_and_left, exists_eq_left', eq_self, Nat.reduceLT, Int.reduceLT, Int.reduceLE, Int.reduceToNat, Int.reduceAdd, Int.reduceSub, Int.reduceNeg, hnm, Try.tf0, Try.tf1, Try.tf2, Try.tf3, Try.tf4, Try.tf5, Try.tf23, Try.tf33, Try.tf34, Try.teq79, Try.tf88, Try.tf90, Try.call52, Try.call53]); repeat (refine And.intro (by omega) ?_))
    | ((with_reducible first | apply WL_nil | apply W_label | apply W_skip | apply W_exit | apply W_ret); try simp only [seqK, blockK, scopeK, ↓reduceIte, Nat.reduceEqDiff])
    | (with_reducible apply W_cond_k; intro _ _ ea eb; (simp only [condK, cob, opnd, constPV, Nat.reduceEqDiff, Nat.reduceLT, ↓reduceIte, hcb, reduceCtorEq, forall_const, ne_eq]); subst ea eb; first | (refine ⟨fun hc => ?_, fun hc => ?_⟩ <;> first | (exfalso; omega) | (exfalso; exact hc trivial) | skip) | skip)
    | (with_reducible apply hnx; clear hnx nx)
    | (with_reducible refine And.intro (by omega) ?_)
    | (with_reducible refine And.intro ?_ ?_)
    | (clear hnx nx; with_reducible apply hnx; clear hnx nx)
    | (clear hnx nx; clear hnx nx; with_reducible apply hnx; clear hnx nx)
    | (clear hnx nx; clear hnx nx; clear hnx nx; with_reducible apply hnx; clear hnx nx))
    all_goals first
      | (exfalso
         omega)
      | skip
    refine hfin _ _ (Fin_ret3 rfl rfl rfl (Sub_nil _) ?_); simp only [List.getD_cons_zero, List.getD_cons_succ, fr_getD_cons, fr_getD_nil, Nat.reduceEqDiff, Nat.reduceLT, ↓reduceIte]
    subst hgS
    exact .inl ⟨hez, rfl, by trivial⟩
theorem getInts_c (G : Globs) (b : List UInt8) (hb : (b.length : Int) ≤ 4294967296) :
    PCalls Try.prog G 46 [.list 1 (b.map pbyte)] [] (fun res H => res = .tuple [.list 1 ((gLs gI 1 b).1.map (pint .i64)), pint .i64 (gLs gI 1 b).2.1, pint .i64 (gLs gI 1 b).2.2] ∧ H = []) :=
  LR.frz (getInts_r G b hb) (by omega) (gLs_norm _ _ _) (by simp) (elems_one _ _)
end Go.PM

namespace Go.PM
open Go.Proofs
attribute [local irreducible] W PCalls pcall pcallI WL
/-- The bytes of a packet. -/
def packB (seq ack : Int) (b : List UInt8) : List UInt8 := encL intB [seq, ack] ++ bytesB b
/-- A packet. -/
@[reducible] def pkP (p : Int × Int × List UInt8) : PV := .agg [pint .i64 p.1, pint .i64 p.2.1, pl p.2.2]
theorem unb_pb (l : List UInt8) : List.map unb (List.map pbyte l) = l := bytes_unb l
theorem isB_pb (l : List UInt8) : (List.map pbyte l).all isByte = true := bytes_isByte l
set_option maxRecDepth 100000 in
set_option maxHeartbeats 8000000 in
theorem pbytes_c (G : Globs) (seq ack : Int) (b : List UInt8) (h1 : inR seq) (h2 : inR ack) (hb : b.length ≤ 100000) : PCalls Try.prog G 33 [.agg [pint .i64 seq, pint .i64 ack, pl b]] [] (fun res H => res = pl (packB seq ack b) ∧ H = []) := by
  have n2 := intB_len9 (n := 2) ⟨by omega, by omega⟩
  have ns := intB_len9 h1
  have na := intB_len9 h2
  have nb := intB_len9 (n := b.length) ⟨by omega, by omega⟩
  have hx : (encL intB [seq, ack]).length ≤ 27 := by simp [encL]; omega
  have hy : (bytesB b).length ≤ 100009 := by simp [bytesB]; omega
  have c1 := wints_c G [seq, ack] (by simp only [List.forall_mem_cons, List.not_mem_nil, false_implies, implies_true, and_true]; exact ⟨h1, h2⟩) (by omega) (by simp)
  have c2 := wbytes_c G b (by omega)
  have c3 := concat_c G [encL intB [seq, ack], bytesB b] (by simp) (by simp [lenS]; omega)
  simp only [List.map_cons, List.map_nil, List.flatten_cons, List.flatten_nil, List.append_nil] at c1 c3
  have hX : packB seq ack b = encL intB [seq, ack] ++ bytesB b := rfl
  rw [hX]
  have u1 := unb_pb b
  have u2 := isB_pb b
  generalize encL intB [seq, ack] = x at *
  generalize bytesB b = y at *
  clear hX
  (refine PCalls_f Try.func33 rfl Try.ntmps33 Try.results33 (by simp) fun fin hfin => ?_; have hnm : True := trivial; simp (maxSteps := 2000000) (disch := omega) only [evb, evd, pbuiltin, constPV, pnck, seqK, blockK, scopeK, pbin, pun, ppick, plen, piaddr, pindex, pfield, pslice, pbound, pconv, pelems, pextract, pmm, PV.mem?, PV.one, PV.cells, pageq, peqs, peq1, pmakes, pstore, pbytes, pmark, psrc, pkey, pnile, pcap, pgrow, List.set, Value.cells, ↓popG_eq, ↓pop.eq_1, ↓List.getElem?_map, ↓List.getElem?_cons_zero, ↓List.getElem?_cons_succ, Value.oneCell', Nat.reduceAdd, Nat.reduceMul, Nat.reduceSub, Nat.reduceLeDiff, Nat.reduceEqDiff, ↓reduceIte, ne_eq, reduceCtorEq, forall_const, exists_and_left, exists_eq_left', eq_self, Nat.reduceLT, Int.reduceLT, Int.reduceLE, Int.reduceToNat, Int.reduceAdd, Int.reduceSub, Int.reduceNeg, hnm, Try.tf0, Try.tf1, Try.tf2, Try.tf3, Try.tf5, Try.tf9, Try.tf23, Try.tf28, Try.tf33, Try.tf68, Try.teq79, Try.call26, Try.call27, Try.call42])
  repeat' (first
    | (with_reducible apply W_seq_k; intro nx hnx)
    | (with_reducible first | apply W_block | apply W_scope)
    | (with_reducible refine W_prune 7 ?_; simp only [prb, Nat.reducePow, Nat.reduceDiv, Nat.reduceMod, Nat.reduceBEq]; first | (with_reducible apply W_region_l) | with_reducible refine W_region_draw (id := 1) 5 (.op 0 true (.op 1 true (.op 2 true (.op 3 true (.op 6 true (.op 7 true (.op 8 true (.op 4 true (.op 5 true (.op 9 false (.op 10 false (.op 11 false (.op 12 true (.done)))))))))))))) (by kernel_rfl) ?_)
    | (with_reducible refine WL_born (by simp) rfl (by simp) ?_; simp only [elemsOf, nl, List.map_cons, List.map_nil, Nat.reduceEqDiff, ↓reduceIte, List.take_succ_cons, List.take_zero, List.range_succ, List.range_zero, List.nil_append, List.cons_append, List.map_append, List.drop_succ_cons, List.drop_zero, Nat.reduceMul, Nat.zero_mul, Nat.one_mul, Nat.reduceAdd])
    | ((first | (with_reducible apply WL_op; intro nx hnx) | with_reducible refine Ev_out ?_ | (with_reducible apply popsD_op; intro nx hnx) | (with_reducible refine popsD_alt ?_ ?_; intro nx hnx) | (with_reducible refine pfresh_k hnm fun nm hnm => ?_; (try simp only [fmb] at hnm)) | (with_reducible refine pborn_im ?_; simp only [elemsOf, nl, List.map_cons, List.map_nil, Nat.reduceEqDiff, ↓reduceIte, List.take_succ_cons, List.take_zero, List.range_succ, List.range_zero, List.nil_append, List.cons_append, List.map_append, List.drop_succ_cons, List.drop_zero, Nat.reduceMul, Nat.zero_mul, Nat.one_mul, Nat.reduceAdd])); try (simp (maxSteps := 2000000) (disch := omega) only [evb, evd, pbuiltin, constPV, pnck, seqK, blockK, scopeK, pbin, pun, ppick, plen, piaddr, pindex, pfield, pslice, pbound, pconv, pelems, pextract, pmm, PV.mem?, PV.one, PV.cells, pageq, peqs, peq1, pmakes, pstore, pbytes, pmark, psrc, pkey, pnile, pcap, pgrow, List.set, Value.cells, ↓popG_eq, ↓pop.eq_1, ↓List.getElem?_map, ↓List.getElem?_cons_zero, ↓List.getElem?_cons_succ, Value.oneCell', Nat.reduceAdd, Nat.reduceMul, Nat.reduceSub, Nat.reduceLeDiff, Nat.reduceEqDiff, ↓reduceIte, ne_eq, reduceCtorEq, forall_const, exists_and_left, exists_eq_left', eq_self, Nat.reduceLT, Int.reduceLT, Int.reduceLE, Int.reduceToNat, Int.reduceAdd, Int.reduceSub, Int.reduceNeg, hnm, Try.tf0, Try.tf1, Try.tf2, Try.tf3, Try.tf5, Try.tf9, Try.tf23, Try.tf28, Try.tf33, Try.tf68, Try.teq79, Try.call26, Try.call27, Try.call42, u1, u2]); repeat (refine And.intro (by omega) ?_))
    | ((with_reducible first | apply WL_nil | apply W_label | apply W_skip | apply W_exit | apply W_ret | apply popsD_done); try simp only [seqK, blockK, scopeK, ↓reduceIte, Nat.reduceEqDiff])
    | with_reducible exact popsD_stop
    | (with_reducible apply W_cond_k; intro _ _ ea eb; (simp only [condK, cob, opnd, constPV, Nat.reduceEqDiff, Nat.reduceLT, ↓reduceIte, hcb, reduceCtorEq, forall_const, ne_eq]); subst ea eb; first | (refine ⟨fun hc => ?_, fun hc => ?_⟩ <;> first | (exfalso; omega) | (exfalso; exact hc trivial) | skip) | skip)
    | (with_reducible apply hnx; clear hnx nx)
    | (with_reducible refine And.intro (by omega) ?_)
    | (with_reducible refine And.intro ?_ ?_)
    | (with_reducible refine pcall_k (c1) ?_; rintro _ _ ⟨rfl, rfl⟩ -; refine Ev_in ?_)
    | (with_reducible refine pcall_k (c2) ?_; rintro _ _ ⟨rfl, rfl⟩ -; refine Ev_in ?_)
    | (with_reducible refine pcall_k (c3) ?_; rintro _ _ ⟨rfl, rfl⟩ -; refine Ev_in ?_)
    | (clear hnx nx; with_reducible apply hnx; clear hnx nx)
    | (clear hnx nx; clear hnx nx; with_reducible apply hnx; clear hnx nx)
    | (clear hnx nx; clear hnx nx; clear hnx nx; with_reducible apply hnx; clear hnx nx))
  all_goals first
    | (exfalso
       omega)
    | exact rfl
    | (refine hfin _ _ (Fin_ret1 rfl (Sub_nil _) ?_); simp only [List.getD_cons_zero, List.getD_cons_succ, fr_getD_cons, fr_getD_nil, Nat.reduceEqDiff, Nat.reduceLT, ↓reduceIte]; first | trivial | exact ⟨rfl, by trivial⟩ | (simp; done) | (simp; omega))
set_option maxRecDepth 100000 in
set_option maxHeartbeats 8000000 in
theorem rbytesP_r (G : Globs) (seq ack : Int) (b : List UInt8) (h1 : inR seq) (h2 : inR ack) (hb : b.length ≤ 100000) : PCalls Try.prog G 18 [.agg [pint .i64 seq, pint .i64 ack, pl b]] [] (RowB (packB seq ack b)) := by
  have n2 := intB_len9 (n := 2) ⟨by omega, by omega⟩
  have ns := intB_len9 h1
  have na := intB_len9 h2
  have nb := intB_len9 (n := b.length) ⟨by omega, by omega⟩
  have hx : (encL intB [seq, ack]).length ≤ 27 := by simp [encL]; omega
  have hy : (bytesB b).length ≤ 100009 := by simp [bytesB]; omega
  have c1 := rints_r G [seq, ack] (by simp only [List.forall_mem_cons, List.not_mem_nil, false_implies, implies_true, and_true]; exact ⟨h1, h2⟩) (by omega) (by simp)
  have c2 := rbytes_c G b (by omega)
  simp only [List.map_cons, List.map_nil] at c1
  have hX : packB seq ack b = encL intB [seq, ack] ++ bytesB b := rfl
  rw [hX]
  have u1 := unb_pb b
  have u2 := isB_pb b
  generalize encL intB [seq, ack] = x at *
  generalize bytesB b = y at *
  clear hX
  (refine PCalls_f Try.func18 rfl Try.ntmps18 Try.results18 (by simp) fun fin hfin => ?_; have hnm : True := trivial; simp (maxSteps := 2000000) (disch := omega) only [evb, evd, pbuiltin, constPV, pnck, seqK, blockK, scopeK, pbin, pun, ppick, plen, piaddr, pindex, pfield, pslice, pbound, pconv, pelems, pextract, pmm, PV.mem?, PV.one, PV.cells, pageq, peqs, peq1, pmakes, pstore, pbytes, pmark, psrc, pkey, pnile, pcap, pgrow, List.set, Value.cells, ↓popG_eq, ↓pop.eq_1, ↓List.getElem?_map, ↓List.getElem?_cons_zero, ↓List.getElem?_cons_succ, Value.oneCell', Nat.reduceAdd, Nat.reduceMul, Nat.reduceSub, Nat.reduceLeDiff, Nat.reduceEqDiff, ↓reduceIte, ne_eq, reduceCtorEq, forall_const, exists_and_left, exists_eq_left', eq_self, Nat.reduceLT, Int.reduceLT, Int.reduceLE, Int.reduceToNat, Int.reduceAdd, Int.reduceSub, Int.reduceNeg, hnm, Try.tf0, Try.tf1, Try.tf2, Try.tf3, Try.tf5, Try.tf9, Try.tf23, Try.tf33, Try.tf43, Try.teq79, Try.call34, Try.call35])
  repeat' (first
    | (with_reducible apply W_seq_k; intro nx hnx)
    | (with_reducible first | apply W_block | apply W_scope)
    | (with_reducible refine W_prune 15 ?_; simp only [prb, Nat.reducePow, Nat.reduceDiv, Nat.reduceMod, Nat.reduceBEq]; with_reducible apply W_region_l)
    | (with_reducible refine WL_born (by simp) rfl (by simp) ?_; simp only [elemsOf, nl, List.map_cons, List.map_nil, Nat.reduceEqDiff, ↓reduceIte, List.take_succ_cons, List.take_zero, List.range_succ, List.range_zero, List.nil_append, List.cons_append, List.map_append, List.drop_succ_cons, List.drop_zero, Nat.reduceMul, Nat.zero_mul, Nat.one_mul, Nat.reduceAdd])
    | ((first | (with_reducible apply WL_op; intro nx hnx) | with_reducible refine Ev_out ?_ | (with_reducible refine pfresh_k hnm fun nm hnm => ?_; (try simp only [fmb] at hnm)) | (with_reducible refine pborn_im ?_; simp only [elemsOf, nl, List.map_cons, List.map_nil, Nat.reduceEqDiff, ↓reduceIte, List.take_succ_cons, List.take_zero, List.range_succ, List.range_zero, List.nil_append, List.cons_append, List.map_append, List.drop_succ_cons, List.drop_zero, Nat.reduceMul, Nat.zero_mul, Nat.one_mul, Nat.reduceAdd])); try (simp (maxSteps := 2000000) (disch := omega) only [evb, evd, pbuiltin, constPV, pnck, seqK, blockK, scopeK, pbin, pun, ppick, plen, piaddr, pindex, pfield, pslice, pbound, pconv, pelems, pextract, pmm, PV.mem?, PV.one, PV.cells, pageq, peqs, peq1, pmakes, pstore, pbytes, pmark, psrc, pkey, pnile, pcap, pgrow, List.set, Value.cells, ↓popG_eq, ↓pop.eq_1, ↓List.getElem?_map, ↓List.getElem?_cons_zero, ↓List.getElem?_cons_succ, Value.oneCell', Nat.reduceAdd, Nat.reduceMul, Nat.reduceSub, Nat.reduceLeDiff, Nat.reduceEqDiff, ↓reduceIte, ne_eq, reduceCtorEq, forall_const, exists_and_left, exists_eq_left', eq_self, Nat.reduceLT, Int.reduceLT, Int.reduceLE, Int.reduceToNat, Int.reduceAdd, Int.reduceSub, Int.reduceNeg, hnm, Try.tf0, Try.tf1, Try.tf2, Try.tf3, Try.tf5, Try.tf9, Try.tf23, Try.tf33, Try.tf43, Try.teq79, Try.call34, Try.call35, u1, u2, flat_pb]); repeat (refine And.intro (by omega) ?_))
    | ((with_reducible first | apply WL_nil | apply W_label | apply W_skip | apply W_exit | apply W_ret); try simp only [seqK, blockK, scopeK, ↓reduceIte, Nat.reduceEqDiff])
    | (with_reducible apply W_cond_k; intro _ _ ea eb; (simp only [condK, cob, opnd, constPV, Nat.reduceEqDiff, Nat.reduceLT, ↓reduceIte, hcb, reduceCtorEq, forall_const, ne_eq]); subst ea eb; first | (refine ⟨fun hc => ?_, fun hc => ?_⟩ <;> first | (exfalso; omega) | (exfalso; exact hc trivial) | skip) | skip)
    | (with_reducible apply hnx; clear hnx nx)
    | (with_reducible refine And.intro (by omega) ?_)
    | (with_reducible refine And.intro ?_ ?_)
    | (clear hnx nx; with_reducible apply hnx; clear hnx nx)
    | (clear hnx nx; clear hnx nx; with_reducible apply hnx; clear hnx nx)
    | (clear hnx nx; clear hnx nx; clear hnx nx; with_reducible apply hnx; clear hnx nx))
  refine pcall_k c1 ?_
  rintro _ _ ⟨N0, rfl, rfl⟩ hN0
  simp only [names, List.map_cons, List.map_nil, List.mem_cons, List.not_mem_nil, or_false, forall_eq] at hN0
  have hN1 : ¬ nm = N0 := fun e => hN0 e.symm
  refine Ev_in ?_
  repeat' (first
    | (with_reducible apply W_seq_k; intro nx hnx)
    | (with_reducible first | apply W_block | apply W_scope)
    | (with_reducible refine W_prune 15 ?_; simp only [prb, Nat.reducePow, Nat.reduceDiv, Nat.reduceMod, Nat.reduceBEq]; with_reducible apply W_region_l)
    | (with_reducible refine WL_born (by simp) rfl (by simp) ?_; simp only [elemsOf, nl, List.map_cons, List.map_nil, Nat.reduceEqDiff, ↓reduceIte, List.take_succ_cons, List.take_zero, List.range_succ, List.range_zero, List.nil_append, List.cons_append, List.map_append, List.drop_succ_cons, List.drop_zero, Nat.reduceMul, Nat.zero_mul, Nat.one_mul, Nat.reduceAdd])
    | ((first | (with_reducible apply WL_op; intro nx hnx) | with_reducible refine Ev_out ?_ | (with_reducible refine pfresh_k hnm fun nm hnm => ?_; (try simp only [fmb] at hnm)) | (with_reducible refine pborn_im ?_; simp only [elemsOf, nl, List.map_cons, List.map_nil, Nat.reduceEqDiff, ↓reduceIte, List.take_succ_cons, List.take_zero, List.range_succ, List.range_zero, List.nil_append, List.cons_append, List.map_append, List.drop_succ_cons, List.drop_zero, Nat.reduceMul, Nat.zero_mul, Nat.one_mul, Nat.reduceAdd])); try (simp (maxSteps := 2000000) (disch := omega) only [evb, evd, pbuiltin, constPV, pnck, seqK, blockK, scopeK, pbin, pun, ppick, plen, piaddr, pindex, pfield, pslice, pbound, pconv, pelems, pextract, pmm, PV.mem?, PV.one, PV.cells, pageq, peqs, peq1, pmakes, pstore, pbytes, pmark, psrc, pkey, pnile, pcap, pgrow, List.set, Value.cells, ↓popG_eq, ↓pop.eq_1, ↓List.getElem?_map, ↓List.getElem?_cons_zero, ↓List.getElem?_cons_succ, Value.oneCell', Nat.reduceAdd, Nat.reduceMul, Nat.reduceSub, Nat.reduceLeDiff, Nat.reduceEqDiff, ↓reduceIte, ne_eq, reduceCtorEq, forall_const, exists_and_left, exists_eq_left', eq_self, Nat.reduceLT, Int.reduceLT, Int.reduceLE, Int.reduceToNat, Int.reduceAdd, Int.reduceSub, Int.reduceNeg, hnm, Try.tf0, Try.tf1, Try.tf2, Try.tf3, Try.tf5, Try.tf9, Try.tf23, Try.tf33, Try.tf43, Try.teq79, Try.call34, Try.call35, u1, u2, flat_pb, hN0, hN1]); repeat (refine And.intro (by omega) ?_))
    | ((with_reducible first | apply WL_nil | apply W_label | apply W_skip | apply W_exit | apply W_ret); try simp only [seqK, blockK, scopeK, ↓reduceIte, Nat.reduceEqDiff])
    | (with_reducible apply W_cond_k; intro _ _ ea eb; (simp only [condK, cob, opnd, constPV, Nat.reduceEqDiff, Nat.reduceLT, ↓reduceIte, hcb, reduceCtorEq, forall_const, ne_eq]); subst ea eb; first | (refine ⟨fun hc => ?_, fun hc => ?_⟩ <;> first | (exfalso; omega) | (exfalso; exact hc trivial) | skip) | skip)
    | (with_reducible apply hnx; clear hnx nx)
    | (with_reducible refine And.intro (by omega) ?_)
    | (with_reducible refine And.intro ?_ ?_)
    | (with_reducible refine pcall_k (c2) ?_; rintro _ _ ⟨rfl, rfl⟩ -; refine Ev_in ?_)
    | (clear hnx nx; with_reducible apply hnx; clear hnx nx)
    | (clear hnx nx; clear hnx nx; with_reducible apply hnx; clear hnx nx)
    | (clear hnx nx; clear hnx nx; clear hnx nx; with_reducible apply hnx; clear hnx nx))
  all_goals first
    | (exfalso
       omega)
    | exact rfl
    | (refine hfin _ _ (Fin_ret1 rfl (H := [(nm, ⟨5, true, 1, x.map pbyte ++ y.map pbyte⟩)]) ⟨by simp, by simp [names]⟩ ?_)
       simp only [fr_getD_cons, fr_getD_nil, Nat.reduceEqDiff, Nat.reduceLT, ↓reduceIte]
       exact ⟨nm, by rw [List.length_append], by rw [List.map_append]⟩)
theorem rbytesP_c (G : Globs) (seq ack : Int) (b : List UInt8) (h1 : inR seq) (h2 : inR ack) (hb : b.length ≤ 100000) : PCalls Try.prog G 18 [.agg [pint .i64 seq, pint .i64 ack, pl b]] [] (fun res H => res = pl (packB seq ack b) ∧ H = []) := RowB.frz (rbytesP_r G seq ack b h1 h2 hb)
/-- Can the packet have been sent? -/
def okP (p : Int × Int × List UInt8) : Bool := decide (0 ≤ p.1) && decide (0 ≤ p.2.1) && decide (p.2.2.length ≤ 65536) && (decide (0 < p.1) || decide (p.2.2.length = 0))
set_option maxRecDepth 100000 in
set_option maxHeartbeats 8000000 in
theorem valid_c (G : Globs) (p : Int × Int × List UInt8) : PCalls Try.prog G 48 [pkP p] [] (fun res H => res = pbool (okP p) ∧ H = []) := by
  obtain ⟨s, a, b⟩ := p
  obtain ⟨k, hk⟩ : ∃ k, k = okP (s, a, b) := ⟨_, rfl⟩
  rw [← hk]
  simp only [okP] at hk
  (refine PCalls_f Try.func48 rfl Try.ntmps48 Try.results48 (by simp) fun fin hfin => ?_; have hnm : True := trivial; simp (maxSteps := 2000000) (disch := omega) only [evb, evd, pbuiltin, constPV, pnck, seqK, blockK, scopeK, pbin, pun, ppick, plen, piaddr, pindex, pfield, pslice, pbound, pconv, pelems, pextract, pmm, PV.mem?, PV.one, PV.cells, pageq, peqs, peq1, pmakes, pstore, pbytes, pmark, psrc, pkey, pnile, pcap, pgrow, List.set, Value.cells, ↓popG_eq, ↓pop.eq_1, ↓List.getElem?_map, ↓List.getElem?_cons_zero, ↓List.getElem?_cons_succ, Value.oneCell', Nat.reduceAdd, Nat.reduceMul, Nat.reduceSub, Nat.reduceLeDiff, Nat.reduceEqDiff, ↓reduceIte, ne_eq, reduceCtorEq, forall_const, exists_and_left, exists_eq_left', eq_self, Nat.reduceLT, Int.reduceLT, Int.reduceLE, Int.reduceToNat, Int.reduceAdd, Int.reduceSub, Int.reduceNeg, hnm, Try.tf0, Try.tf1, Try.tf2, Try.tf3, Try.tf4, Try.tf5, Try.tf33, Try.tf68, Try.teq79])
  repeat' (first
    | (with_reducible apply W_seq_k; intro nx hnx)
    | (with_reducible first | apply W_block | apply W_scope)
    | (with_reducible refine W_prune 7 ?_; simp only [prb, Nat.reducePow, Nat.reduceDiv, Nat.reduceMod, Nat.reduceBEq]; with_reducible apply W_region_l)
    | ((first | (with_reducible apply WL_op; intro nx hnx) | with_reducible refine Ev_out ?_ | (with_reducible refine pfresh_k hnm fun nm hnm => ?_; (try simp only [fmb] at hnm)) | (with_reducible refine pborn_mu hnm fun nm hnm => ?_; (try simp only [fmb] at hnm))); try (simp (maxSteps := 2000000) (disch := omega) only [evb, evd, pbuiltin, constPV, pnck, seqK, blockK, scopeK, pbin, pun, ppick, plen, piaddr, pindex, pfield, pslice, pbound, pconv, pelems, pextract, pmm, PV.mem?, PV.one, PV.cells, pageq, peqs, peq1, pmakes, pstore, pbytes, pmark, psrc, pkey, pnile, pcap, pgrow, List.set, Value.cells, ↓popG_eq, ↓pop.eq_1, ↓List.getElem?_map, ↓List.getElem?_cons_zero, ↓List.getElem?_cons_succ, Value.oneCell', Nat.reduceAdd, Nat.reduceMul, Nat.reduceSub, Nat.reduceLeDiff, Nat.reduceEqDiff, ↓reduceIte, ne_eq, reduceCtorEq, forall_const, exists_and_left, exists_eq_left', eq_self, Nat.reduceLT, Int.reduceLT, Int.reduceLE, Int.reduceToNat, Int.reduceAdd, Int.reduceSub, Int.reduceNeg, hnm, Try.tf0, Try.tf1, Try.tf2, Try.tf3, Try.tf4, Try.tf5, Try.tf33, Try.tf68, Try.teq79]); repeat (refine And.intro (by omega) ?_))
    | ((with_reducible first | apply WL_nil | apply W_label | apply W_skip | apply W_exit | apply W_ret); try simp only [seqK, blockK, scopeK, ↓reduceIte, Nat.reduceEqDiff])
    | (with_reducible apply pguard_intro <;> (intro hc; (try simp only [hcb, reduceCtorEq, forall_const, ne_eq] at hc); first | (exfalso; omega) | (exfalso; exact hc trivial) | refine Ev_in ?_))
    | (with_reducible apply W_cond_k; intro _ _ ea eb; (simp only [condK, cob, opnd, constPV, Nat.reduceEqDiff, Nat.reduceLT, ↓reduceIte, hcb, reduceCtorEq, forall_const, ne_eq]); subst ea eb; first | (refine ⟨fun hc => ?_, fun hc => ?_⟩ <;> first | (exfalso; omega) | (exfalso; exact hc trivial) | skip) | skip)
    | (with_reducible apply hnx; clear hnx nx)
    | (with_reducible refine And.intro (by omega) ?_)
    | (with_reducible refine And.intro ?_ ?_)
    | (clear hnx nx; with_reducible apply hnx; clear hnx nx)
    | (clear hnx nx; clear hnx nx; with_reducible apply hnx; clear hnx nx)
    | (clear hnx nx; clear hnx nx; clear hnx nx; with_reducible apply hnx; clear hnx nx))
  all_goals first
    | (exfalso
       omega)
    | skip
  all_goals
    refine hfin _ _ (Fin_ret1 rfl (Sub_nil _) ?_); simp only [List.getD_cons_zero, List.getD_cons_succ, fr_getD_cons, fr_getD_nil, Nat.reduceEqDiff, Nat.reduceLT, ↓reduceIte]
    refine ⟨?_, by trivial⟩
    have hb : ∀ b1 b2 : Bool, b1 = b2 → pbool b1 = pbool b2 := fun _ _ h => by rw [h]
    refine hb _ _ ?_
    rw [hk, Bool.eq_iff_iff]
    simp only [Bool.and_eq_true, Bool.or_eq_true, decide_eq_true_eq, beq_iff_eq, Bool.false_eq_true, true_iff, false_iff]
    omega
/-- Reading packets. -/
def readF (c : List UInt8) : (Int × Int × List UInt8) × Bool :=
  if (gLs gI 1 c).2.2 ≠ 0 ∨ (gLs gI 1 c).1.length ≠ 2 then ((0, 0, []), false)
  else if (gS (c.drop (gLs gI 1 c).2.1)).2.2 ≠ 0 ∨ (gLs gI 1 c).2.1 + (gS (c.drop (gLs gI 1 c).2.1)).2.1 ≠ c.length then ((0, 0, []), false)
  else (((gLs gI 1 c).1.getD 0 0, (gLs gI 1 c).1.getD 1 0, (gS (c.drop (gLs gI 1 c).2.1)).1), okP ((gLs gI 1 c).1.getD 0 0, (gLs gI 1 c).1.getD 1 0, (gS (c.drop (gLs gI 1 c).2.1)).1))
end Go.PM
