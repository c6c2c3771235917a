/- Joined texts (Av Bf Bg Bc Bi Bo): the machine, the contracts, the laws. Conditions: none but those that each names. -/
import Derived.Test.YthgaoncndnkcmaaDoorJc
set_option linter.unusedSimpArgs false
set_option linter.unusedVariables false
namespace Go.PM
open Go.Proofs
attribute [local irreducible] W PCalls pcall pcallI WL
set_option maxRecDepth 100000
set_option maxHeartbeats 8000000
theorem cutF_le (s : List UInt8) (c : UInt8) : (cutF s c).1.length ≤ s.length := by
  unfold cutF
  split
  · simp
    omega
  · simp
theorem splitF_step {c : UInt8} {s : List UInt8} (h : s ≠ []) : ((cutF s c).2.2 = true ∧ splitF c s = (cutF s c).1 :: splitF c (cutF s c).2.1 ∧ (cutF s c).2.1.length < s.length ∧ (cutF s c).1.length ≤ s.length) ∨ ((cutF s c).2.2 = false ∧ splitF c s = [s]) := by
  rcases idx_cases c s with ⟨h1, h2⟩ | ⟨t, r, h1, h2, h3⟩
  · refine .inr ⟨?_, splitF_none h2⟩
    simp [cutF, h1]
  · have e : cutF s c = (t, r, true) := by
      unfold cutF
      rw [h3, if_pos (by omega), Int.toNat_natCast, h1, List.take_left' rfl, ← List.drop_drop, List.drop_left' rfl]
      rfl
    refine .inl ⟨by rw [e], ?_, ?_⟩
    · rw [e]
      conv => lhs; rw [h1]
      exact splitF_cut h2
    · rw [e, h1]
      simp
      omega
/-- The cells of the texts of bases. -/
def secs (xs : List (Ltr × List UInt8)) : List PV := xs.map fun x => pstr x.2
/-- What Parse has read so far. -/
@[reducible] def parS (s r : List UInt8) (xs : List (Ltr × List UInt8)) (A B : Int) : PState := ⟨fr 130 [(6, .row B 1 xs.length), (5, .row A 5 xs.length), (0, pstr r)], [(B, ⟨9, true, 1, secs xs⟩), (A, ⟨45, true, 5, flatL (xs.map Prod.fst)⟩)]⟩
theorem lineF_five {t x b m k w : List UInt8} (h : splitF 32 t = [x, b, m, k, w]) : lineF t = if x = [] ∨ b = [] then none else if (numF m).2 && ((numF k).2 && (numF w).2) then some (⟨x, 0, (numF m).1, (numF k).1, (numF w).1⟩, b) else none := by
  unfold lineF
  rw [h]
theorem lineF_not {t : List UInt8} (h : (splitF 32 t).length ≠ 5) : lineF t = none := by
  unfold lineF
  split
  · rename_i h2
    rw [h2] at h
    exact absurd rfl h
  · rfl
theorem five {l : List (List UInt8)} (h : l.length = 5) : ∃ x b m k w, l = [x, b, m, k, w] := by
  match l, h with
  | [x, b, m, k, w], _ => exact ⟨x, b, m, k, w, rfl⟩
theorem parseF_bad {s : List UInt8} {xs : List (Ltr × List UInt8)} (hs : s.length ≤ 65536) (h : readL (splitF 10 s) = (xs, false)) : parseF s = ([], (xs.length : Int) + 1, 2) := by
  unfold parseF
  rw [if_neg (by omega), h, if_pos rfl]
theorem parseF_none {s : List UInt8} {xs : List (Ltr × List UInt8)} {i : Nat} (hs : s.length ≤ 65536) (h : readL (splitF 10 s) = (xs, true)) (hi : i < xs.length) (h1 : findT (xs.map Prod.fst) xs[i].2 = none) (h2 : ∀ x ∈ xs.take i, (findT (xs.map Prod.fst) x.2).isSome = true) : parseF s = ([], (i : Int) + 1, 6) := by
  unfold parseF
  rw [if_neg (by omega), h, if_neg (by simp)]
  have : (xs.findIdx? fun x => (findT (xs.map Prod.fst) x.2).isNone) = some i := by
    rw [List.findIdx?_eq_some_iff_getElem]
    refine ⟨hi, by simp [h1], fun j hj => ?_⟩
    have := h2 xs[j] (by rw [List.mem_take_iff_getElem]; exact ⟨j, by omega, rfl⟩)
    cases hq : findT (xs.map Prod.fst) xs[j].2 with
    | none => rw [hq] at this; cases this
    | some k => simp
  rw [this]
theorem parseF_ok {s : List UInt8} {xs : List (Ltr × List UInt8)} (hs : s.length ≤ 65536) (h : readL (splitF 10 s) = (xs, true)) (h2 : ∀ x ∈ xs, (findT (xs.map Prod.fst) x.2).isSome = true) : parseF s = if validF (basedF xs) then (basedF xs, 0, 0) else ([], 0, 1) := by
  unfold parseF
  rw [if_neg (by omega), h, if_neg (by simp)]
  have : (xs.findIdx? fun x => (findT (xs.map Prod.fst) x.2).isNone) = none := by
    rw [List.findIdx?_eq_none_iff]
    intro x hx
    have := h2 x hx
    cases hq : findT (xs.map Prod.fst) x.2 with
    | none => rw [hq] at this; cases this
    | some k => simp
  rw [this]
theorem findT_texts {a b : List Ltr} (h : texts a = texts b) (t : List UInt8) : findT a t = findT b t := by
  have e : ∀ a : List Ltr, findT a t = (texts a).findIdx? fun x => decide (x = t) := fun a => by
    unfold findT texts
    rw [List.findIdx?_map]
    rfl
  rw [e, e, h]
/-- The letters, the first i with their bases. -/
def upto (xs : List (Ltr × List UInt8)) (i : Nat) : List Ltr := (basedF xs).take i ++ (xs.map Prod.fst).drop i
theorem basedF_len {xs : List (Ltr × List UInt8)} : (basedF xs).length = xs.length := by simp [basedF]
theorem upto_zero {xs : List (Ltr × List UInt8)} : upto xs 0 = xs.map Prod.fst := by simp [upto]
theorem upto_full {xs : List (Ltr × List UInt8)} : upto xs xs.length = basedF xs := by
  unfold upto
  rw [List.take_of_length_le (by simp [basedF]), List.drop_of_length_le (by simp), List.append_nil]
theorem upto_get {xs : List (Ltr × List UInt8)} {i : Nat} (h : i ≤ xs.length) (j : Nat) : (upto xs i)[j]? = if j < i then (basedF xs)[j]? else (xs.map Prod.fst)[j]? := by
  unfold upto
  have hl : ((basedF xs).take i).length = i := by
    rw [List.length_take, basedF_len]
    omega
  split
  · rename_i hj
    rw [List.getElem?_append_left (by omega), List.getElem?_take, if_pos hj]
  · rename_i hj
    rw [List.getElem?_append_right (by omega), hl, List.getElem?_drop, show i + (j - i) = j by omega]
theorem upto_len {xs : List (Ltr × List UInt8)} {i : Nat} (h : i ≤ xs.length) : (upto xs i).length = xs.length := by
  unfold upto
  rw [List.length_append, List.length_take, List.length_drop, basedF_len, List.length_map]
  omega
theorem based_get {xs : List (Ltr × List UInt8)} {j : Nat} (h : j < xs.length) : (basedF xs)[j]? = some { xs[j].1 with base := (findT (xs.map Prod.fst) xs[j].2).getD 0 } := by
  unfold basedF
  rw [List.getElem?_map, List.getElem?_eq_getElem h]
  rfl
theorem upto_texts {xs : List (Ltr × List UInt8)} {i : Nat} (h : i ≤ xs.length) : texts (upto xs i) = texts (xs.map Prod.fst) := by
  apply List.ext_getElem?
  intro j
  simp only [texts, List.getElem?_map]
  rw [upto_get h]
  split
  · rename_i hj
    rw [based_get (by omega), List.getElem?_eq_getElem (by omega)]
    rfl
  · rw [List.getElem?_map]
theorem upto_step {xs : List (Ltr × List UInt8)} {i k : Nat} (h : i < xs.length) (hk : findT (xs.map Prod.fst) xs[i].2 = some k) (hl : i < (upto xs i).length) : (upto xs i).set i { (upto xs i)[i] with base := k } = upto xs (i + 1) := by
  have hx : (upto xs i)[i] = xs[i].1 := by
    have := upto_get (Nat.le_of_lt h) i
    rw [if_neg (by omega), List.getElem?_eq_getElem hl, List.getElem?_map, List.getElem?_eq_getElem h] at this
    exact Option.some.inj this
  rw [hx]
  apply List.ext_getElem?
  intro j
  rw [List.getElem?_set, upto_get h, upto_get (Nat.le_of_lt h), upto_len (Nat.le_of_lt h)]
  by_cases hj : i = j
  · subst hj
    rw [if_pos rfl, if_pos (by omega), if_pos (by omega), based_get h, hk]
    rfl
  · rw [if_neg hj]
    by_cases h2 : j < i
    · rw [if_pos h2, if_pos (by omega)]
    · rw [if_neg h2, if_neg (by omega)]
theorem valN_from : ∀ (s : List UInt8) (acc : Int), 0 ≤ acc → s.all dig = true → 0 ≤ s.foldl (fun n c => 10 * n + ((c.toNat : Int) - 48)) acc ∧ s.foldl (fun n c => 10 * n + ((c.toNat : Int) - 48)) acc < (acc + 1) * 10 ^ s.length
  | [], acc, h, _ => by simp; omega
  | c :: s, acc, h, hd => by
    simp only [List.all_cons, Bool.and_eq_true] at hd
    have h1 : 48 ≤ (c.toNat : Int) ∧ (c.toNat : Int) ≤ 57 := by
      have := hd.1
      unfold dig at this
      simpa using this
    obtain ⟨h2, h3⟩ := valN_from s (10 * acc + ((c.toNat : Int) - 48)) (by omega) hd.2
    refine ⟨h2, Int.lt_of_lt_of_le h3 ?_⟩
    rw [List.length_cons, Int.pow_succ, Int.mul_comm (10 ^ s.length) 10, ← Int.mul_assoc]
    exact Int.mul_le_mul_of_nonneg_right (by omega) (Int.pow_nonneg (by omega))
theorem numF_bd (s : List UInt8) : 0 ≤ (numF s).1 ∧ (numF s).1 < 1000000 := by
  unfold numF
  split
  · rename_i h
    unfold numB at h
    simp only [Bool.and_eq_true, decide_eq_true_eq] at h
    obtain ⟨h1, h2⟩ := valN_from s 0 (by omega) h.2
    have h3 : (10 : Int) ^ s.length ≤ 10 ^ 6 := by
      have : (10 : Nat) ^ s.length ≤ 10 ^ 6 := Nat.pow_le_pow_right (by omega) (by omega)
      exact_mod_cast this
    show 0 ≤ valN s ∧ valN s < 1000000
    unfold valN
    omega
  · simp
/-- Letters with small numbers. -/
def smallL (x : Ltr) : Prop := x.text.length ≤ 65536 ∧ (0 ≤ x.mark ∧ x.mark < 1000000) ∧ (0 ≤ x.case_ ∧ x.case_ < 1000000) ∧ (0 ≤ x.width ∧ x.width < 1000000)
theorem based_HA {xs : List (Ltr × List UInt8)} (hl : xs.length ≤ 65536) (h : ∀ x ∈ xs, smallL x.1) : HA (basedF xs) := by
  refine ⟨by rw [basedF_len]; omega, fun y hy => ?_⟩
  unfold basedF at hy
  obtain ⟨x, hx, rfl⟩ := List.mem_map.1 hy
  obtain ⟨h1, h2, h3, h4⟩ := h x hx
  refine ⟨?_, ⟨?_, ?_⟩, ?_, ?_⟩ <;> simp only <;> omega
section
variable {P : Program} {G : Globs} {σ : PState}
/-- A call to which letters in a row are lent. -/
theorem pcall_lts {fn : FuncId} {d : Option Tmp} {K : PState → Prop} {q : Bool} {A : Int} {t : TypeId} {a : List Ltr} {n : Nat} {v : Value} (hl : look σ.heap A = some ⟨t, true, 5, flatL a⟩) (hn : n = a.length)
    (hc : PCalls P G fn [ltsP a] [] (fun res H => res = .val v ∧ H = [])) (hk : K (PState.put σ d (.val v))) : @pcallI q P G σ d fn [.row A 5 n] ⟨K⟩ := by
  subst hn
  refine pcall_lend A _ hl (R := fun res H => res = .val v ∧ H = []) ?_ ?_
  · have := frz_lts A a
    simp only [frz] at this
    simp only [List.map_cons, List.map_nil]
    rw [this]
    exact hc
  · rintro res H ⟨rfl, rfl⟩
    exact ⟨rfl, .val v, hk⟩
end
theorem parse_c (G : Globs) (s : List UInt8) : PCalls Tryd.prog G 19 [pstr s] [] (fun res H => ∃ o, res = .tuple [o, pint .i64 (parseF s).2.1, pint .i64 (parseF s).2.2] ∧ CRL (parseF s).1 o H) := by
  (refine PCalls_f Tryd.func19 rfl Tryd.ntmps19 Tryd.results19 (by simp) fun fin hfin => ?_; have hnm : True := trivial; simp (maxSteps := 2000000) (disch := omega) only [evb, evd, pbuiltin, constPV, pnck, seqK, blockK, scopeK, pbin, pun, ppick, plen, piaddr, pindex, pfield, pslice, pbound, pconv, pelems, pextract, pmm, PV.mem?, PV.one, PV.cells, pageq, peqs, peq1, pmakes, pstore, pbytes, pmark, pusd, pust, psrc, pkey, pnile, pcap, pgrow, List.set, Value.cells, ↓popG_eq, ↓pop.eq_1, ↓List.getElem?_map, ↓List.getElem?_cons_zero, ↓List.getElem?_cons_succ, Value.oneCell', Nat.reduceAdd, Nat.reduceMul, Nat.reduceSub, Nat.reduceLeDiff, Nat.reduceEqDiff, ↓reduceIte, ne_eq, reduceCtorEq, forall_const, exists_and_left, exists_eq_left', eq_self, Nat.reduceLT, Int.reduceLT, Int.reduceLE, Int.reduceToNat, Int.reduceAdd, Int.reduceSub, Int.reduceNeg, hnm, Tryd.tf0, Tryd.tf1, Tryd.tf2, Tryd.tf3, Tryd.tf4, Tryd.tf9, Tryd.tf23, Tryd.tf26, Tryd.tf36, Tryd.tf45, Tryd.teq45, Tryd.tf56, Tryd.tf59, Tryd.tf64, Tryd.teq94, Tryd.teq104, Tryd.teq113, Tryd.teq114, Tryd.call37, Tryd.call38, Tryd.call39, Tryd.call40, Tryd.call42])
  repeat' (first
    | (with_reducible apply W_seq_k; intro nx hnx)
    | (with_reducible first | apply W_block | apply W_scope)
    | (with_reducible refine W_prune 567907468902246771870523037057021 ?_; simp only [prb, Nat.reducePow, Nat.reduceDiv, Nat.reduceMod, Nat.reduceBEq]; with_reducible apply W_region_l)
    | ((first | (with_reducible apply WL_op; intro nx hnx) | with_reducible refine Ev_out ?_ | (with_reducible refine pfresh_k hnm fun nm hnm => ?_; (try simp only [fmb] at hnm)) | (with_reducible refine pborn_mu hnm fun nm hnm => ?_; (try simp only [fmb] at hnm)) | (with_reducible refine pmaybe_k ?_; intro bn hbn)); try (simp (maxSteps := 2000000) (disch := omega) only [evb, evd, pbuiltin, constPV, pnck, seqK, blockK, scopeK, pbin, pun, ppick, plen, piaddr, pindex, pfield, pslice, pbound, pconv, pelems, pextract, pmm, PV.mem?, PV.one, PV.cells, pageq, peqs, peq1, pmakes, pstore, pbytes, pmark, pusd, pust, psrc, pkey, pnile, pcap, pgrow, List.set, Value.cells, ↓popG_eq, ↓pop.eq_1, ↓List.getElem?_map, ↓List.getElem?_cons_zero, ↓List.getElem?_cons_succ, Value.oneCell', Nat.reduceAdd, Nat.reduceMul, Nat.reduceSub, Nat.reduceLeDiff, Nat.reduceEqDiff, ↓reduceIte, ne_eq, reduceCtorEq, forall_const, exists_and_left, exists_eq_left', eq_self, Nat.reduceLT, Int.reduceLT, Int.reduceLE, Int.reduceToNat, Int.reduceAdd, Int.reduceSub, Int.reduceNeg, hnm, Tryd.tf0, Tryd.tf1, Tryd.tf2, Tryd.tf3, Tryd.tf4, Tryd.tf9, Tryd.tf23, Tryd.tf26, Tryd.tf36, Tryd.tf45, Tryd.teq45, Tryd.tf56, Tryd.tf59, Tryd.tf64, Tryd.teq94, Tryd.teq104, Tryd.teq113, Tryd.teq114, Tryd.call37, Tryd.call38, Tryd.call39, Tryd.call40, Tryd.call42]); repeat (refine And.intro (by omega) ?_))
    | ((with_reducible first | apply WL_nil | apply W_label | apply W_skip | apply W_exit | apply W_ret); try simp only [seqK, blockK, scopeK, ↓reduceIte, Nat.reduceEqDiff])
    | (with_reducible apply pguard_intro <;> (intro hc; (try simp only [hcb, reduceCtorEq, forall_const, ne_eq] at hc); first | (exfalso; omega) | (exfalso; exact hc trivial) | refine Ev_in ?_))
    | (with_reducible apply W_cond_k; intro _ _ ea eb; (simp only [condK, cob, opnd, constPV, Nat.reduceEqDiff, Nat.reduceLT, ↓reduceIte, hcb, reduceCtorEq, forall_const, ne_eq]); subst ea eb; first | (refine ⟨fun hc => ?_, fun hc => ?_⟩ <;> first | (exfalso; omega) | (exfalso; exact hc trivial) | skip) | skip)
    | (with_reducible apply hnx; clear hnx nx)
    | (with_reducible refine And.intro (by omega) ?_)
    | (with_reducible refine And.intro ?_ ?_)
    | (clear hnx nx; with_reducible apply hnx; clear hnx nx)
    | (clear hnx nx; clear hnx nx; with_reducible apply hnx; clear hnx nx)
    | (clear hnx nx; clear hnx nx; clear hnx nx; with_reducible apply hnx; clear hnx nx))
  all_goals first | exact absurd trivial hc | contradiction | exact fun h => False.elim h | (exfalso; omega) | (exfalso; have hc := of_decide_eq_false hc; omega) | (exfalso; simp only [Bool.not_false, Bool.not_true, decide_eq_true_eq, decide_eq_false_iff_not] at *; omega) | skip
  · have e : parseF s = ([], 0, 4) := by
      unfold parseF
      rw [if_pos (by omega)]
    refine hfin _ _ (Fin_ret3 rfl rfl rfl (Sub_nil _) ?_); simp only [List.getD_cons_zero, List.getD_cons_succ, fr_getD_cons, fr_getD_nil, Nat.reduceEqDiff, Nat.reduceLT, ↓reduceIte]
    rw [e]
    exact ⟨pnil, rfl, .inl ⟨rfl, rfl, by trivial⟩⟩
  have hs : s.length ≤ 65536 := by omega
  refine W_adopt_f 5 45 5 (by simp only [fr_getD_cons, Nat.reduceEqDiff, Nat.reduceLT, ↓reduceIte]) fun A0 hA => ?_
  refine W_adopt_f 6 9 1 (by simp only [fr_getD_cons, Nat.reduceEqDiff, Nat.reduceLT, ↓reduceIte]) fun B0 hB => ?_
  have hAB : (B0 = A0) = False ∧ (A0 = B0) = False := by
    simp only [names, List.map_cons, List.map_nil, List.mem_cons, List.not_mem_nil, or_false] at hB
    exact ⟨eq_false hB, eq_false fun e => hB e.symm⟩
  refine W_loop_k (fun z τ => ∃ (r : List UInt8) (xs : List (Ltr × List UInt8)) (A B : Int), ((B = A) = False ∧ (A = B) = False) ∧ z = r.length ∧ xs.length + r.length ≤ s.length ∧ readL (splitF 10 s) = (xs ++ (readL (splitF 10 r)).1, (readL (splitF 10 r)).2) ∧ (∀ x ∈ xs, smallL x.1) ∧ τ = parS s r xs A B) s.length
    (parS s s [] A0 B0) (by
    refine Wk_fr (by simp only [wkb, Nat.reduceEqDiff, Nat.reduceLT, ↓reduceIte, pn, List.length_nil]) ?_
    exact Sub_refl (by simp [names, hAB])) ⟨s, [], A0, B0, hAB, rfl, by simp, by simp, by simp, rfl⟩ ?_
  clear hAB hB hA hnm
  have hnm : True := trivial
  rintro z τ ⟨r, xs, A, B, hAB, rfl, hxl, hrd, hsm, rfl⟩ lp hlp
  by_cases hr0 : r = []
  · subst hr0
    have hrd : readL (splitF 10 s) = (xs, true) := by rw [hrd]; simp [splitF, readL]
    repeat' (first
    | (with_reducible apply W_seq_k; intro nx hnx)
    | (with_reducible first | apply W_block | apply W_scope)
    | (with_reducible refine W_prune 567907468902246771870523037057021 ?_; simp only [prb, Nat.reducePow, Nat.reduceDiv, Nat.reduceMod, Nat.reduceBEq]; with_reducible apply W_region_l)
    | ((first | (with_reducible apply WL_op; intro nx hnx) | with_reducible refine Ev_out ?_ | (with_reducible refine pfresh_k hnm fun nm hnm => ?_; (try simp only [fmb] at hnm)) | (with_reducible refine pborn_mu hnm fun nm hnm => ?_; (try simp only [fmb] at hnm)) | (with_reducible refine pmaybe_k ?_; intro bn hbn)); try (simp (maxSteps := 2000000) (disch := omega) only [evb, evd, pbuiltin, constPV, pnck, seqK, blockK, scopeK, pbin, pun, ppick, plen, piaddr, pindex, pfield, pslice, pbound, pconv, pelems, pextract, pmm, PV.mem?, PV.one, PV.cells, pageq, peqs, peq1, pmakes, pstore, pbytes, pmark, pusd, pust, psrc, pkey, pnile, pcap, pgrow, List.set, Value.cells, ↓popG_eq, ↓pop.eq_1, ↓List.getElem?_map, ↓List.getElem?_cons_zero, ↓List.getElem?_cons_succ, Value.oneCell', Nat.reduceAdd, Nat.reduceMul, Nat.reduceSub, Nat.reduceLeDiff, Nat.reduceEqDiff, ↓reduceIte, ne_eq, reduceCtorEq, forall_const, exists_and_left, exists_eq_left', eq_self, Nat.reduceLT, Int.reduceLT, Int.reduceLE, Int.reduceToNat, Int.reduceAdd, Int.reduceSub, Int.reduceNeg, hnm, Tryd.tf0, Tryd.tf1, Tryd.tf2, Tryd.tf3, Tryd.tf4, Tryd.tf9, Tryd.tf23, Tryd.tf26, Tryd.tf36, Tryd.tf45, Tryd.teq45, Tryd.tf56, Tryd.tf59, Tryd.tf64, Tryd.teq94, Tryd.teq104, Tryd.teq113, Tryd.teq114, Tryd.call37, Tryd.call38, Tryd.call39, Tryd.call40, Tryd.call42, hAB]); repeat (refine And.intro (by omega) ?_))
    | ((with_reducible first | apply WL_nil | apply W_label | apply W_skip | apply W_exit | apply W_ret); try simp only [seqK, blockK, scopeK, ↓reduceIte, Nat.reduceEqDiff])
    | (with_reducible apply pguard_intro <;> (intro hc; (try simp only [hcb, reduceCtorEq, forall_const, ne_eq] at hc); first | (exfalso; omega) | (exfalso; exact hc trivial) | refine Ev_in ?_))
    | (with_reducible apply W_cond_k; intro _ _ ea eb; (simp only [condK, cob, opnd, constPV, Nat.reduceEqDiff, Nat.reduceLT, ↓reduceIte, hcb, reduceCtorEq, forall_const, ne_eq]); subst ea eb; first | (refine ⟨fun hc => ?_, fun hc => ?_⟩ <;> first | (exfalso; omega) | (exfalso; exact hc trivial) | skip) | skip)
    | (with_reducible apply hnx; clear hnx nx)
    | (with_reducible refine And.intro (by omega) ?_)
    | (with_reducible refine And.intro ?_ ?_)
    | (clear hnx nx; with_reducible apply hnx; clear hnx nx)
    | (clear hnx nx; clear hnx nx; with_reducible apply hnx; clear hnx nx)
    | (clear hnx nx; clear hnx nx; clear hnx nx; with_reducible apply hnx; clear hnx nx))
    all_goals first | exact absurd trivial hc | contradiction | exact fun h => False.elim h | (exfalso; omega) | (exfalso; have hc := of_decide_eq_false hc; omega) | (exfalso; simp only [Bool.not_false, Bool.not_true, decide_eq_true_eq, decide_eq_false_iff_not] at *; omega) | skip
    refine W_loop_k (fun z τ => ∃ i : Nat, i ≤ xs.length ∧ z = xs.length - i ∧ (∀ x ∈ xs.take i, (findT (xs.map Prod.fst) x.2).isSome = true) ∧ τ = ⟨fr 130 [(108, pn i), (107, pint .i64 xs.length), (106, .row B 1 xs.length), (5, .row A 5 xs.length)], [(A, ⟨45, true, 5, flatL (upto xs i)⟩), (B, ⟨9, true, 1, secs xs⟩)]⟩) xs.length
      ⟨fr 130 [(108, pn 0), (107, pint .i64 xs.length), (106, .row B 1 xs.length), (5, .row A 5 xs.length)], [(A, ⟨45, true, 5, flatL (upto xs 0)⟩), (B, ⟨9, true, 1, secs xs⟩)]⟩ (by
      rw [upto_zero]
      refine Wk_fr (by simp only [wkb, Nat.reduceEqDiff, Nat.reduceLT, ↓reduceIte, pn]) ?_
      refine ⟨fun x hx => ?_, by simp [names, hAB]⟩
      simp only [List.mem_cons, List.not_mem_nil, or_false] at hx ⊢
      rcases hx with rfl | rfl
      · exact .inr rfl
      · exact .inl rfl) ⟨0, by omega, by omega, by simp, rfl⟩ ?_
    rintro z τ ⟨i, hi, rfl, hsome, rfl⟩ lp2 hlp2
    have hul := upto_len hi
    have hfl := flatL_len (upto xs i)
    rw [hul] at hfl
    have hlx : (secs xs).length = xs.length := List.length_map ..
    by_cases hil : i < xs.length
    · have hgb : (secs xs)[i]? = some (pstr xs[i].2) := by unfold secs; rw [List.getElem?_map, List.getElem?_eq_getElem hil]; rfl
      have cx := fun c : Int => indexFunc_c G (upto xs i) xs[i].2 A c (by omega)
      rw [hul] at cx
      cases hfk : findT (xs.map Prod.fst) xs[i].2 with
      | none =>
        have hid : idxT (upto xs i) xs[i].2 = -1 := by rw [idxT, findT_texts (upto_texts hi), hfk]
        rw [hid] at cx
        repeat' (first
    | (with_reducible apply W_seq_k; intro nx hnx)
    | (with_reducible first | apply W_block | apply W_scope)
    | (with_reducible refine W_prune 567907468902246771870523037057021 ?_; simp only [prb, Nat.reducePow, Nat.reduceDiv, Nat.reduceMod, Nat.reduceBEq]; with_reducible apply W_region_l)
    | ((first | (with_reducible apply WL_op; intro nx hnx) | with_reducible refine Ev_out ?_ | (with_reducible refine pfresh_k hnm fun nm hnm => ?_; (try simp only [fmb] at hnm)) | (with_reducible refine pborn_mu hnm fun nm hnm => ?_; (try simp only [fmb] at hnm)) | (with_reducible refine pmaybe_k ?_; intro bn hbn)); try (simp (maxSteps := 2000000) (disch := omega) only [evb, evd, pbuiltin, constPV, pnck, seqK, blockK, scopeK, pbin, pun, ppick, plen, piaddr, pindex, pfield, pslice, pbound, pconv, pelems, pextract, pmm, PV.mem?, PV.one, PV.cells, pageq, peqs, peq1, pmakes, pstore, pbytes, pmark, pusd, pust, psrc, pkey, pnile, pcap, pgrow, List.set, Value.cells, ↓popG_eq, ↓pop.eq_1, ↓List.getElem?_map, ↓List.getElem?_cons_zero, ↓List.getElem?_cons_succ, Value.oneCell', Nat.reduceAdd, Nat.reduceMul, Nat.reduceSub, Nat.reduceLeDiff, Nat.reduceEqDiff, ↓reduceIte, ne_eq, reduceCtorEq, forall_const, exists_and_left, exists_eq_left', eq_self, Nat.reduceLT, Int.reduceLT, Int.reduceLE, Int.reduceToNat, Int.reduceAdd, Int.reduceSub, Int.reduceNeg, hnm, Tryd.tf0, Tryd.tf1, Tryd.tf2, Tryd.tf3, Tryd.tf4, Tryd.tf9, Tryd.tf23, Tryd.tf26, Tryd.tf36, Tryd.tf45, Tryd.teq45, Tryd.tf56, Tryd.tf59, Tryd.tf64, Tryd.teq94, Tryd.teq104, Tryd.teq113, Tryd.teq114, Tryd.call37, Tryd.call38, Tryd.call39, Tryd.call40, Tryd.call42, hAB, hgb, hfl, hlx]); repeat (refine And.intro (by omega) ?_))
    | ((with_reducible first | apply WL_nil | apply W_label | apply W_skip | apply W_exit | apply W_ret); try simp only [seqK, blockK, scopeK, ↓reduceIte, Nat.reduceEqDiff])
    | (with_reducible apply pguard_intro <;> (intro hc; (try simp only [hcb, reduceCtorEq, forall_const, ne_eq] at hc); first | (exfalso; omega) | (exfalso; exact hc trivial) | refine Ev_in ?_))
    | (with_reducible apply W_cond_k; intro _ _ ea eb; (simp only [condK, cob, opnd, constPV, Nat.reduceEqDiff, Nat.reduceLT, ↓reduceIte, hcb, reduceCtorEq, forall_const, ne_eq]); subst ea eb; first | (refine ⟨fun hc => ?_, fun hc => ?_⟩ <;> first | (exfalso; omega) | (exfalso; exact hc trivial) | skip) | skip)
    | (with_reducible apply hnx; clear hnx nx)
    | (with_reducible refine And.intro (by omega) ?_)
    | (with_reducible refine And.intro ?_ ?_)
    | ((refine pcall_midn [] [_, _] [_] rfl (cx _) ?_; rintro _ _ ⟨rfl, rfl⟩ -; refine Ev_in ?_))
    | (clear hnx nx; with_reducible apply hnx; clear hnx nx)
    | (clear hnx nx; clear hnx nx; with_reducible apply hnx; clear hnx nx)
    | (clear hnx nx; clear hnx nx; clear hnx nx; with_reducible apply hnx; clear hnx nx))
        all_goals first | exact absurd trivial hc | contradiction | exact fun h => False.elim h | (exfalso; omega) | (exfalso; have hc := of_decide_eq_false hc; omega) | (exfalso; simp only [Bool.not_false, Bool.not_true, decide_eq_true_eq, decide_eq_false_iff_not] at *; omega) | skip
        all_goals
          refine hfin _ _ (Fin_ret3 rfl rfl rfl (Sub_nil _) ?_); simp only [List.getD_cons_zero, List.getD_cons_succ, fr_getD_cons, fr_getD_nil, Nat.reduceEqDiff, Nat.reduceLT, ↓reduceIte]
          rw [parseF_none hs hrd hil hfk hsome]
          exact ⟨pnil, rfl, .inl ⟨rfl, rfl, by trivial⟩⟩
      | some kk =>
        have hid : idxT (upto xs i) xs[i].2 = kk := by rw [idxT, findT_texts (upto_texts hi), hfk]
        rw [hid] at cx
        have hbase := flatL_base (l := upto xs i) (i := i) (by omega) kk
        rw [upto_step hil hfk (by omega)] at hbase
        repeat' (first
    | (with_reducible apply W_seq_k; intro nx hnx)
    | (with_reducible first | apply W_block | apply W_scope)
    | (with_reducible refine W_prune 567907468902246771870523037057021 ?_; simp only [prb, Nat.reducePow, Nat.reduceDiv, Nat.reduceMod, Nat.reduceBEq]; with_reducible apply W_region_l)
    | ((first | (with_reducible apply WL_op; intro nx hnx) | with_reducible refine Ev_out ?_ | (with_reducible refine pfresh_k hnm fun nm hnm => ?_; (try simp only [fmb] at hnm)) | (with_reducible refine pborn_mu hnm fun nm hnm => ?_; (try simp only [fmb] at hnm)) | (with_reducible refine pmaybe_k ?_; intro bn hbn)); try (simp (maxSteps := 2000000) (disch := omega) only [evb, evd, pbuiltin, constPV, pnck, seqK, blockK, scopeK, pbin, pun, ppick, plen, piaddr, pindex, pfield, pslice, pbound, pconv, pelems, pextract, pmm, PV.mem?, PV.one, PV.cells, pageq, peqs, peq1, pmakes, pstore, pbytes, pmark, pusd, pust, psrc, pkey, pnile, pcap, pgrow, List.set, Value.cells, ↓popG_eq, ↓pop.eq_1, ↓List.getElem?_map, ↓List.getElem?_cons_zero, ↓List.getElem?_cons_succ, Value.oneCell', Nat.reduceAdd, Nat.reduceMul, Nat.reduceSub, Nat.reduceLeDiff, Nat.reduceEqDiff, ↓reduceIte, ne_eq, reduceCtorEq, forall_const, exists_and_left, exists_eq_left', eq_self, Nat.reduceLT, Int.reduceLT, Int.reduceLE, Int.reduceToNat, Int.reduceAdd, Int.reduceSub, Int.reduceNeg, hnm, Tryd.tf0, Tryd.tf1, Tryd.tf2, Tryd.tf3, Tryd.tf4, Tryd.tf9, Tryd.tf23, Tryd.tf26, Tryd.tf36, Tryd.tf45, Tryd.teq45, Tryd.tf56, Tryd.tf59, Tryd.tf64, Tryd.teq94, Tryd.teq104, Tryd.teq113, Tryd.teq114, Tryd.call37, Tryd.call38, Tryd.call39, Tryd.call40, Tryd.call42, hAB, hgb, hfl, hlx, hbase]); repeat (refine And.intro (by omega) ?_))
    | ((with_reducible first | apply WL_nil | apply W_label | apply W_skip | apply W_exit | apply W_ret); try simp only [seqK, blockK, scopeK, ↓reduceIte, Nat.reduceEqDiff])
    | (with_reducible apply pguard_intro <;> (intro hc; (try simp only [hcb, reduceCtorEq, forall_const, ne_eq] at hc); first | (exfalso; omega) | (exfalso; exact hc trivial) | refine Ev_in ?_))
    | (with_reducible apply W_cond_k; intro _ _ ea eb; (simp only [condK, cob, opnd, constPV, Nat.reduceEqDiff, Nat.reduceLT, ↓reduceIte, hcb, reduceCtorEq, forall_const, ne_eq]); subst ea eb; first | (refine ⟨fun hc => ?_, fun hc => ?_⟩ <;> first | (exfalso; omega) | (exfalso; exact hc trivial) | skip) | skip)
    | (with_reducible apply hnx; clear hnx nx)
    | (with_reducible refine And.intro (by omega) ?_)
    | (with_reducible refine And.intro ?_ ?_)
    | ((refine pcall_midn [] [_, _] [_] rfl (cx _) ?_; rintro _ _ ⟨rfl, rfl⟩ -; refine Ev_in ?_))
    | (clear hnx nx; with_reducible apply hnx; clear hnx nx)
    | (clear hnx nx; clear hnx nx; with_reducible apply hnx; clear hnx nx)
    | (clear hnx nx; clear hnx nx; clear hnx nx; with_reducible apply hnx; clear hnx nx))
        all_goals first | exact absurd trivial hc | contradiction | exact fun h => False.elim h | (exfalso; omega) | (exfalso; have hc := of_decide_eq_false hc; omega) | (exfalso; simp only [Bool.not_false, Bool.not_true, decide_eq_true_eq, decide_eq_false_iff_not] at *; omega) | skip
        refine hlp2 _ (xs.length - (i + 1)) ⟨fr 130 [(108, pn (i + 1)), (107, pint .i64 xs.length), (106, .row B 1 xs.length), (5, .row A 5 xs.length)], [(A, ⟨45, true, 5, flatL (upto xs (i + 1))⟩), (B, ⟨9, true, 1, secs xs⟩)]⟩ (by omega) ?_ ⟨i + 1, by omega, rfl, ?_, rfl⟩
        · refine Wk_fr (by simp only [wkb, Nat.reduceEqDiff, Nat.reduceLT, ↓reduceIte, pn]) ?_
          exact ⟨fun x hx => List.mem_cons_of_mem _ hx, by simp [names, hAB]⟩
        · intro x hx
          rw [List.take_add_one, List.getElem?_eq_getElem hil, List.mem_append] at hx
          rcases hx with hx | hx
          · exact hsome x hx
          · simp only [Option.toList_some, List.mem_singleton] at hx
            rw [hx, hfk]
            rfl
    · have hi2 : i = xs.length := by omega
      subst hi2
      have cv := valid_c G (basedF xs) (based_HA (by omega) hsm)
      rw [List.take_length] at hsome
      have hok := parseF_ok hs hrd hsome
      rw [upto_full] at hfl
      rw [upto_full]
      repeat' (first
    | (with_reducible apply W_seq_k; intro nx hnx)
    | (with_reducible first | apply W_block | apply W_scope)
    | (with_reducible refine W_prune 567907468902246771870523037057021 ?_; simp only [prb, Nat.reducePow, Nat.reduceDiv, Nat.reduceMod, Nat.reduceBEq]; with_reducible apply W_region_l)
    | ((first | (with_reducible apply WL_op; intro nx hnx) | with_reducible refine Ev_out ?_ | (with_reducible refine pfresh_k hnm fun nm hnm => ?_; (try simp only [fmb] at hnm)) | (with_reducible refine pborn_mu hnm fun nm hnm => ?_; (try simp only [fmb] at hnm)) | (with_reducible refine pmaybe_k ?_; intro bn hbn)); try (simp (maxSteps := 2000000) (disch := omega) only [evb, evd, pbuiltin, constPV, pnck, seqK, blockK, scopeK, pbin, pun, ppick, plen, piaddr, pindex, pfield, pslice, pbound, pconv, pelems, pextract, pmm, PV.mem?, PV.one, PV.cells, pageq, peqs, peq1, pmakes, pstore, pbytes, pmark, pusd, pust, psrc, pkey, pnile, pcap, pgrow, List.set, Value.cells, ↓popG_eq, ↓pop.eq_1, ↓List.getElem?_map, ↓List.getElem?_cons_zero, ↓List.getElem?_cons_succ, Value.oneCell', Nat.reduceAdd, Nat.reduceMul, Nat.reduceSub, Nat.reduceLeDiff, Nat.reduceEqDiff, ↓reduceIte, ne_eq, reduceCtorEq, forall_const, exists_and_left, exists_eq_left', eq_self, Nat.reduceLT, Int.reduceLT, Int.reduceLE, Int.reduceToNat, Int.reduceAdd, Int.reduceSub, Int.reduceNeg, hnm, Tryd.tf0, Tryd.tf1, Tryd.tf2, Tryd.tf3, Tryd.tf4, Tryd.tf9, Tryd.tf23, Tryd.tf26, Tryd.tf36, Tryd.tf45, Tryd.teq45, Tryd.tf56, Tryd.tf59, Tryd.tf64, Tryd.teq94, Tryd.teq104, Tryd.teq113, Tryd.teq114, Tryd.call37, Tryd.call38, Tryd.call39, Tryd.call40, Tryd.call42, hAB, hfl]); repeat (refine And.intro (by omega) ?_))
    | ((with_reducible first | apply WL_nil | apply W_label | apply W_skip | apply W_exit | apply W_ret); try simp only [seqK, blockK, scopeK, ↓reduceIte, Nat.reduceEqDiff])
    | (with_reducible apply pguard_intro <;> (intro hc; (try simp only [hcb, reduceCtorEq, forall_const, ne_eq] at hc); first | (exfalso; omega) | (exfalso; exact hc trivial) | refine Ev_in ?_))
    | (with_reducible apply W_cond_k; intro _ _ ea eb; (simp only [condK, cob, opnd, constPV, Nat.reduceEqDiff, Nat.reduceLT, ↓reduceIte, hcb, reduceCtorEq, forall_const, ne_eq]); subst ea eb; first | (refine ⟨fun hc => ?_, fun hc => ?_⟩ <;> first | (exfalso; omega) | (exfalso; exact hc trivial) | skip) | skip)
    | (with_reducible apply hnx; clear hnx nx)
    | (with_reducible refine And.intro (by omega) ?_)
    | (with_reducible refine And.intro ?_ ?_)
    | ((refine pcall_lts (t := 45) (a := basedF xs) (by simp only [look, if_true]) (by rw [basedF_len]) cv ?_; refine Ev_in ?_))
    | (clear hnx nx; with_reducible apply hnx; clear hnx nx)
    | (clear hnx nx; clear hnx nx; with_reducible apply hnx; clear hnx nx)
    | (clear hnx nx; clear hnx nx; clear hnx nx; with_reducible apply hnx; clear hnx nx))
      all_goals first | exact absurd trivial hc | contradiction | exact fun h => False.elim h | (exfalso; omega) | (exfalso; have hc := of_decide_eq_false hc; omega) | (exfalso; simp only [Bool.not_false, Bool.not_true, decide_eq_true_eq, decide_eq_false_iff_not] at *; omega) | skip
      · rw [hc, if_neg (by simp)] at hok
        refine hfin _ _ (Fin_ret3 rfl rfl rfl (Sub_nil _) ?_); simp only [List.getD_cons_zero, List.getD_cons_succ, fr_getD_cons, fr_getD_nil, Nat.reduceEqDiff, Nat.reduceLT, ↓reduceIte]
        rw [hok]
        exact ⟨pnil, rfl, .inl ⟨rfl, rfl, by trivial⟩⟩
      · rw [hc, if_pos rfl] at hok
        refine hfin _ _ (Fin_ret3 rfl rfl rfl (H := [(A, ⟨45, true, 5, flatL (basedF xs)⟩)]) ⟨fun x hx => ?_, by simp [names]⟩ ?_)
        · simp only [List.mem_cons, List.not_mem_nil, or_false] at hx ⊢
          exact .inl hx
        · simp only [fr_getD_cons, Nat.reduceEqDiff, Nat.reduceLT, ↓reduceIte]
          rw [hok]
          exact ⟨.row A 5 xs.length, rfl, .inr ⟨A, by rw [basedF_len], rfl⟩⟩
  · have cc := cut_c G r 10 (by omega)
    have hst := splitF_step (c := 10) hr0
    have htl := cutF_le r 10
    obtain ⟨⟨t, r', e⟩, hcut⟩ : ∃ q, q = cutF r 10 := ⟨_, rfl⟩
    rw [← hcut] at cc hst htl
    simp only at cc hst htl
    have cs := split_c G t 32 (by omega)
    have hle := splitF_mem 32 t
    have hll : (flatL (xs.map Prod.fst)).length = xs.length * 5 := by rw [flatL_len, List.length_map]
    have hlx : (secs xs).length = xs.length := List.length_map ..
    have hsnoc2 : ∀ x : Ltr × List UInt8, secs (xs ++ [x]) = secs xs ++ [pstr x.2] := fun x => by simp [secs]
    have hsnoc1 : ∀ x : Ltr × List UInt8, flatL ((xs ++ [x]).map Prod.fst) = flatL (xs.map Prod.fst) ++ cellL x.1 := fun x => by
      rw [List.map_append]
      exact flatL_snoc _ _
    rcases hst with ⟨rfl, h1, h2, h3⟩ | ⟨rfl, h1⟩
    · by_cases h5 : (splitF 32 t).length = 5
      · obtain ⟨x, b, m, k, w, hsp⟩ := five h5
        have hln := lineF_five hsp
        rw [hsp] at cs hle
        have n1 := number_c G m (by have := hle m (by simp); omega)
        have n2 := number_c G k (by have := hle k (by simp); omega)
        have n3 := number_c G w (by have := hle w (by simp); omega)
        simp only [List.map_cons, List.map_nil] at cs
        repeat' (first
    | (with_reducible apply W_seq_k; intro nx hnx)
    | (with_reducible first | apply W_block | apply W_scope)
    | (with_reducible refine W_prune 567907468902246771870523037057021 ?_; simp only [prb, Nat.reducePow, Nat.reduceDiv, Nat.reduceMod, Nat.reduceBEq]; with_reducible apply W_region_l)
    | ((first | (with_reducible apply WL_op; intro nx hnx) | with_reducible refine Ev_out ?_ | (with_reducible refine pfresh_k hnm fun nm hnm => ?_; (try simp only [fmb] at hnm)) | (with_reducible refine pborn_mu hnm fun nm hnm => ?_; (try simp only [fmb] at hnm)) | (with_reducible refine pmaybe_k ?_; intro bn hbn)); try (simp (maxSteps := 2000000) (disch := omega) only [evb, evd, pbuiltin, constPV, pnck, seqK, blockK, scopeK, pbin, pun, ppick, plen, piaddr, pindex, pfield, pslice, pbound, pconv, pelems, pextract, pmm, PV.mem?, PV.one, PV.cells, pageq, peqs, peq1, pmakes, pstore, pbytes, pmark, pusd, pust, psrc, pkey, pnile, pcap, pgrow, List.set, Value.cells, ↓popG_eq, ↓pop.eq_1, ↓List.getElem?_map, ↓List.getElem?_cons_zero, ↓List.getElem?_cons_succ, Value.oneCell', Nat.reduceAdd, Nat.reduceMul, Nat.reduceSub, Nat.reduceLeDiff, Nat.reduceEqDiff, ↓reduceIte, ne_eq, reduceCtorEq, forall_const, exists_and_left, exists_eq_left', eq_self, Nat.reduceLT, Int.reduceLT, Int.reduceLE, Int.reduceToNat, Int.reduceAdd, Int.reduceSub, Int.reduceNeg, hnm, Tryd.tf0, Tryd.tf1, Tryd.tf2, Tryd.tf3, Tryd.tf4, Tryd.tf9, Tryd.tf23, Tryd.tf26, Tryd.tf36, Tryd.tf45, Tryd.teq45, Tryd.tf56, Tryd.tf59, Tryd.tf64, Tryd.teq94, Tryd.teq104, Tryd.teq113, Tryd.teq114, Tryd.call37, Tryd.call38, Tryd.call39, Tryd.call40, Tryd.call42, hAB, hr0, List.length_map, hll, hlx]); repeat (refine And.intro (by omega) ?_))
    | ((with_reducible first | apply WL_nil | apply W_label | apply W_skip | apply W_exit | apply W_ret); try simp only [seqK, blockK, scopeK, ↓reduceIte, Nat.reduceEqDiff])
    | (with_reducible apply pguard_intro <;> (intro hc; (try simp only [hcb, reduceCtorEq, forall_const, ne_eq] at hc); first | (exfalso; omega) | (exfalso; exact hc trivial) | refine Ev_in ?_))
    | (with_reducible apply W_cond_k; intro _ _ ea eb; (simp only [condK, cob, opnd, constPV, Nat.reduceEqDiff, Nat.reduceLT, ↓reduceIte, hcb, reduceCtorEq, forall_const, ne_eq]); subst ea eb; first | (refine ⟨fun hc => ?_, fun hc => ?_⟩ <;> first | (exfalso; omega) | (exfalso; exact hc trivial) | skip) | skip)
    | (with_reducible apply hnx; clear hnx nx)
    | (with_reducible refine And.intro (by omega) ?_)
    | (with_reducible refine And.intro ?_ ?_)
    | (with_reducible refine pcall_k (cc) ?_; rintro _ _ ⟨rfl, rfl⟩ -; refine Ev_in ?_)
    | (with_reducible refine pcall_k (cs) ?_; rintro _ _ ⟨rfl, rfl⟩ -; refine Ev_in ?_)
    | (with_reducible refine pcall_k (n1) ?_; rintro _ _ ⟨rfl, rfl⟩ -; refine Ev_in ?_)
    | (with_reducible refine pcall_k (n2) ?_; rintro _ _ ⟨rfl, rfl⟩ -; refine Ev_in ?_)
    | (with_reducible refine pcall_k (n3) ?_; rintro _ _ ⟨rfl, rfl⟩ -; refine Ev_in ?_)
    | (clear hnx nx; with_reducible apply hnx; clear hnx nx)
    | (clear hnx nx; clear hnx nx; with_reducible apply hnx; clear hnx nx)
    | (clear hnx nx; clear hnx nx; clear hnx nx; with_reducible apply hnx; clear hnx nx))
        all_goals first | exact absurd trivial hc | contradiction | exact fun h => False.elim h | (exfalso; omega) | (exfalso; have hc := of_decide_eq_false hc; omega) | (exfalso; simp only [Bool.not_false, Bool.not_true, decide_eq_true_eq, decide_eq_false_iff_not] at *; omega) | skip
        all_goals first
          | (have hn : lineF t = none := by
               rw [hln]
               simp_all
             rw [h1, readL_none splitF_ne hn, List.append_nil] at hrd
             refine hfin _ _ (Fin_ret3 rfl rfl rfl (Sub_nil _) ?_); simp only [List.getD_cons_zero, List.getD_cons_succ, fr_getD_cons, fr_getD_nil, Nat.reduceEqDiff, Nat.reduceLT, ↓reduceIte]
             rw [parseF_bad hs hrd]
             exact ⟨pnil, rfl, .inl ⟨rfl, rfl, by trivial⟩⟩)
          | skip
        have hn : lineF t = some (⟨x, 0, (numF m).1, (numF k).1, (numF w).1⟩, b) := by
          rw [hln]
          simp_all
        rename_i N0 g0 N1 g1 N2 g2
        rw [h1, readL_some splitF_ne hn, List.append_cons] at hrd
        refine hlp _ r'.length (parS s r' (xs ++ [(⟨x, 0, (numF m).1, (numF k).1, (numF w).1⟩, b)]) N1 nm) (by omega) ?_ ⟨r', _, N1, nm, by simp [hnm], rfl, by simp; omega, hrd, ?_, rfl⟩
        · rw [parS, hsnoc1, hsnoc2]
          refine Wk_fr (by simp only [wkb, Nat.reduceEqDiff, Nat.reduceLT, ↓reduceIte, pn, List.length_append, List.length_singleton]) ?_
          refine ⟨fun x hx => ?_, by simp [names, hnm]⟩
          simp only [List.mem_cons, List.not_mem_nil, or_false] at hx ⊢
          rcases hx with rfl | rfl
          · exact .inl rfl
          · exact .inr (.inr (.inl rfl))
        · intro y hy
          rw [List.mem_append, List.mem_singleton] at hy
          rcases hy with hy | rfl
          · exact hsm y hy
          · have := hle x (by simp)
            exact ⟨by simp only; omega, numF_bd m, numF_bd k, numF_bd w⟩
      · have hln := lineF_not h5
        rw [h1, readL_none splitF_ne hln, List.append_nil] at hrd
        repeat' (first
    | (with_reducible apply W_seq_k; intro nx hnx)
    | (with_reducible first | apply W_block | apply W_scope)
    | (with_reducible refine W_prune 567907468902246771870523037057021 ?_; simp only [prb, Nat.reducePow, Nat.reduceDiv, Nat.reduceMod, Nat.reduceBEq]; with_reducible apply W_region_l)
    | ((first | (with_reducible apply WL_op; intro nx hnx) | with_reducible refine Ev_out ?_ | (with_reducible refine pfresh_k hnm fun nm hnm => ?_; (try simp only [fmb] at hnm)) | (with_reducible refine pborn_mu hnm fun nm hnm => ?_; (try simp only [fmb] at hnm)) | (with_reducible refine pmaybe_k ?_; intro bn hbn)); try (simp (maxSteps := 2000000) (disch := omega) only [evb, evd, pbuiltin, constPV, pnck, seqK, blockK, scopeK, pbin, pun, ppick, plen, piaddr, pindex, pfield, pslice, pbound, pconv, pelems, pextract, pmm, PV.mem?, PV.one, PV.cells, pageq, peqs, peq1, pmakes, pstore, pbytes, pmark, pusd, pust, psrc, pkey, pnile, pcap, pgrow, List.set, Value.cells, ↓popG_eq, ↓pop.eq_1, ↓List.getElem?_map, ↓List.getElem?_cons_zero, ↓List.getElem?_cons_succ, Value.oneCell', Nat.reduceAdd, Nat.reduceMul, Nat.reduceSub, Nat.reduceLeDiff, Nat.reduceEqDiff, ↓reduceIte, ne_eq, reduceCtorEq, forall_const, exists_and_left, exists_eq_left', eq_self, Nat.reduceLT, Int.reduceLT, Int.reduceLE, Int.reduceToNat, Int.reduceAdd, Int.reduceSub, Int.reduceNeg, hnm, Tryd.tf0, Tryd.tf1, Tryd.tf2, Tryd.tf3, Tryd.tf4, Tryd.tf9, Tryd.tf23, Tryd.tf26, Tryd.tf36, Tryd.tf45, Tryd.teq45, Tryd.tf56, Tryd.tf59, Tryd.tf64, Tryd.teq94, Tryd.teq104, Tryd.teq113, Tryd.teq114, Tryd.call37, Tryd.call38, Tryd.call39, Tryd.call40, Tryd.call42, hAB, hr0, List.length_map]); repeat (refine And.intro (by omega) ?_))
    | ((with_reducible first | apply WL_nil | apply W_label | apply W_skip | apply W_exit | apply W_ret); try simp only [seqK, blockK, scopeK, ↓reduceIte, Nat.reduceEqDiff])
    | (with_reducible apply pguard_intro <;> (intro hc; (try simp only [hcb, reduceCtorEq, forall_const, ne_eq] at hc); first | (exfalso; omega) | (exfalso; exact hc trivial) | refine Ev_in ?_))
    | (with_reducible apply W_cond_k; intro _ _ ea eb; (simp only [condK, cob, opnd, constPV, Nat.reduceEqDiff, Nat.reduceLT, ↓reduceIte, hcb, reduceCtorEq, forall_const, ne_eq]); subst ea eb; first | (refine ⟨fun hc => ?_, fun hc => ?_⟩ <;> first | (exfalso; omega) | (exfalso; exact hc trivial) | skip) | skip)
    | (with_reducible apply hnx; clear hnx nx)
    | (with_reducible refine And.intro (by omega) ?_)
    | (with_reducible refine And.intro ?_ ?_)
    | (with_reducible refine pcall_k (cc) ?_; rintro _ _ ⟨rfl, rfl⟩ -; refine Ev_in ?_)
    | (with_reducible refine pcall_k (cs) ?_; rintro _ _ ⟨rfl, rfl⟩ -; refine Ev_in ?_)
    | (clear hnx nx; with_reducible apply hnx; clear hnx nx)
    | (clear hnx nx; clear hnx nx; with_reducible apply hnx; clear hnx nx)
    | (clear hnx nx; clear hnx nx; clear hnx nx; with_reducible apply hnx; clear hnx nx))
        all_goals first | exact absurd trivial hc | contradiction | exact fun h => False.elim h | (exfalso; omega) | (exfalso; have hc := of_decide_eq_false hc; omega) | (exfalso; simp only [Bool.not_false, Bool.not_true, decide_eq_true_eq, decide_eq_false_iff_not] at *; omega) | skip
        all_goals
          refine hfin _ _ (Fin_ret3 rfl rfl rfl (Sub_nil _) ?_); simp only [List.getD_cons_zero, List.getD_cons_succ, fr_getD_cons, fr_getD_nil, Nat.reduceEqDiff, Nat.reduceLT, ↓reduceIte]
          rw [parseF_bad hs hrd]
          exact ⟨pnil, rfl, .inl ⟨rfl, rfl, by trivial⟩⟩
    · have : (readL [r]) = ([], false) := by simp [readL, hr0]
      rw [h1, this, List.append_nil] at hrd
      repeat' (first
    | (with_reducible apply W_seq_k; intro nx hnx)
    | (with_reducible first | apply W_block | apply W_scope)
    | (with_reducible refine W_prune 567907468902246771870523037057021 ?_; simp only [prb, Nat.reducePow, Nat.reduceDiv, Nat.reduceMod, Nat.reduceBEq]; with_reducible apply W_region_l)
    | ((first | (with_reducible apply WL_op; intro nx hnx) | with_reducible refine Ev_out ?_ | (with_reducible refine pfresh_k hnm fun nm hnm => ?_; (try simp only [fmb] at hnm)) | (with_reducible refine pborn_mu hnm fun nm hnm => ?_; (try simp only [fmb] at hnm)) | (with_reducible refine pmaybe_k ?_; intro bn hbn)); try (simp (maxSteps := 2000000) (disch := omega) only [evb, evd, pbuiltin, constPV, pnck, seqK, blockK, scopeK, pbin, pun, ppick, plen, piaddr, pindex, pfield, pslice, pbound, pconv, pelems, pextract, pmm, PV.mem?, PV.one, PV.cells, pageq, peqs, peq1, pmakes, pstore, pbytes, pmark, pusd, pust, psrc, pkey, pnile, pcap, pgrow, List.set, Value.cells, ↓popG_eq, ↓pop.eq_1, ↓List.getElem?_map, ↓List.getElem?_cons_zero, ↓List.getElem?_cons_succ, Value.oneCell', Nat.reduceAdd, Nat.reduceMul, Nat.reduceSub, Nat.reduceLeDiff, Nat.reduceEqDiff, ↓reduceIte, ne_eq, reduceCtorEq, forall_const, exists_and_left, exists_eq_left', eq_self, Nat.reduceLT, Int.reduceLT, Int.reduceLE, Int.reduceToNat, Int.reduceAdd, Int.reduceSub, Int.reduceNeg, hnm, Tryd.tf0, Tryd.tf1, Tryd.tf2, Tryd.tf3, Tryd.tf4, Tryd.tf9, Tryd.tf23, Tryd.tf26, Tryd.tf36, Tryd.tf45, Tryd.teq45, Tryd.tf56, Tryd.tf59, Tryd.tf64, Tryd.teq94, Tryd.teq104, Tryd.teq113, Tryd.teq114, Tryd.call37, Tryd.call38, Tryd.call39, Tryd.call40, Tryd.call42, hAB, hr0, List.length_map]); repeat (refine And.intro (by omega) ?_))
    | ((with_reducible first | apply WL_nil | apply W_label | apply W_skip | apply W_exit | apply W_ret); try simp only [seqK, blockK, scopeK, ↓reduceIte, Nat.reduceEqDiff])
    | (with_reducible apply pguard_intro <;> (intro hc; (try simp only [hcb, reduceCtorEq, forall_const, ne_eq] at hc); first | (exfalso; omega) | (exfalso; exact hc trivial) | refine Ev_in ?_))
    | (with_reducible apply W_cond_k; intro _ _ ea eb; (simp only [condK, cob, opnd, constPV, Nat.reduceEqDiff, Nat.reduceLT, ↓reduceIte, hcb, reduceCtorEq, forall_const, ne_eq]); subst ea eb; first | (refine ⟨fun hc => ?_, fun hc => ?_⟩ <;> first | (exfalso; omega) | (exfalso; exact hc trivial) | skip) | skip)
    | (with_reducible apply hnx; clear hnx nx)
    | (with_reducible refine And.intro (by omega) ?_)
    | (with_reducible refine And.intro ?_ ?_)
    | (with_reducible refine pcall_k (cc) ?_; rintro _ _ ⟨rfl, rfl⟩ -; refine Ev_in ?_)
    | (with_reducible refine pcall_k (cs) ?_; rintro _ _ ⟨rfl, rfl⟩ -; refine Ev_in ?_)
    | (clear hnx nx; with_reducible apply hnx; clear hnx nx)
    | (clear hnx nx; clear hnx nx; with_reducible apply hnx; clear hnx nx)
    | (clear hnx nx; clear hnx nx; clear hnx nx; with_reducible apply hnx; clear hnx nx))
      all_goals first | exact absurd trivial hc | contradiction | exact fun h => False.elim h | (exfalso; omega) | (exfalso; have hc := of_decide_eq_false hc; omega) | (exfalso; simp only [Bool.not_false, Bool.not_true, decide_eq_true_eq, decide_eq_false_iff_not] at *; omega) | skip
      all_goals
        refine hfin _ _ (Fin_ret3 rfl rfl rfl (Sub_nil _) ?_); simp only [List.getD_cons_zero, List.getD_cons_succ, fr_getD_cons, fr_getD_nil, Nat.reduceEqDiff, Nat.reduceLT, ↓reduceIte]
        rw [parseF_bad hs hrd]
        exact ⟨pnil, rfl, .inl ⟨rfl, rfl, by trivial⟩⟩
theorem Px.nil3 {G : Globs} (es : Nat) (q r : PV) (H : Heap) : Px G (.tuple [pnil, q, r]) H (.tuple [.list es [], q, r]) H := fun _ _ A _ w v hs hr => by
  refine ⟨A, hs, ?_⟩
  cases hr with
  | tuple cs f h2 =>
    refine .tuple [.list es [], q, r] f fun j u hu => ?_
    match j with
    | 0 =>
      cases hu
      exact nil_list es (h2 0 pnil rfl)
    | j + 1 => exact h2 (j + 1) u hu
/-- A result of three parts, the first of which is letters in a row. -/
theorem CRL.frz3 {G : Globs} {f : FuncId} {args : List PV} {b : List Ltr} {j k : Int} (h : PCalls Tryd.prog G f args [] (fun res H => ∃ o, res = .tuple [o, pint .i64 j, pint .i64 k] ∧ CRL b o H)) : PCalls Tryd.prog G f args [] (fun res H => res = .tuple [ltsP b, pint .i64 j, pint .i64 k] ∧ H = []) := by
  refine h.px fun res H hR => ?_
  obtain ⟨o, rfl, hR⟩ := hR
  rcases hR with ⟨rfl, rfl, rfl⟩ | ⟨N, rfl, rfl⟩
  · exact ⟨_, _, Px.nil3 5 _ _ _, rfl, rfl⟩
  · have h2 := Px.freeze (G := G) (.tuple [.row N 5 b.length, pint .i64 j, pint .i64 k]) [(N, ⟨45, true, 5, flatL b⟩)] N (o := ⟨45, true, 5, flatL b⟩) (by simp only [look, if_true]) (by simp [frzOk, del])
    refine ⟨_, _, h2, ?_, by simp [frzH, del]⟩
    have := frz_lts N b
    simp only [PM.frz] at this
    simp only [PM.frz, List.map_cons, List.map_nil, this]
    simp only [frz1]
theorem parse_f (G : Globs) (s : List UInt8) : PCalls Tryd.prog G 19 [pstr s] [] (fun res H => res = .tuple [ltsP (parseF s).1, pint .i64 (parseF s).2.1, pint .i64 (parseF s).2.2] ∧ H = []) := CRL.frz3 (parse_c G s)
end Go.PM

namespace Go.PM
open Go.Proofs
attribute [local irreducible] W PCalls pcall pcallI WL
set_option maxRecDepth 100000
set_option maxHeartbeats 8000000
def exA : List Ltr := [⟨[99], 0, 0, 0, 5⟩, ⟨[104], 1, 0, 0, 6⟩, ⟨[99, 104], 2, 0, 0, 9⟩]
theorem ex_HA : HA exA := ⟨by decide, by decide⟩
theorem ex_r1 : readF exA [99, 104, 99] = ([2, 0], -1) := by decide +kernel
theorem ex_r2 : readF exA [99, 104, 45, 99] = ([2], 2) := by decide +kernel
theorem ex_w : writeF exA [0, 1] = ([99, 104], 0) := by decide +kernel
theorem ex_s1 : safeF exA [0, 1] = false := by decide +kernel
theorem ex_s2 : safeF exA [2] = true := by decide +kernel
theorem ex_p : parseF [97, 32, 97, 32, 48, 32, 48, 32, 53, 10, 65, 32, 97, 32, 48, 32, 49, 32, 54, 10] = ([⟨[97], 0, 0, 0, 5⟩, ⟨[65], 0, 0, 1, 6⟩], 0, 0) := by decide +kernel
theorem lives_c (G : Globs) : PCalls Tryd.prog G 15 [] [] (fun res H => res = pbool true ∧ H = []) := by
  have c1 := read_f G exA [99, 104, 99] ex_HA (by decide)
  have c2 := read_f G exA [99, 104, 45, 99] ex_HA (by decide)
  have c3 := write_c G exA [0, 1] ex_HA (by decide)
  have c4 := parse_f G [97, 32, 97, 32, 48, 32, 48, 32, 53, 10, 65, 32, 97, 32, 48, 32, 49, 32, 54, 10]
  have c5 := sameInts_c G [2, 0] [2, 0] (by decide)
  have c6 := sameInts_c G [2] [2] (by decide)
  have c7 := safe_c G exA [0, 1] ex_HA (by decide)
  have c8 := safe_c G exA [2] ex_HA (by decide)
  rw [ex_r1] at c1
  rw [ex_r2] at c2
  rw [ex_w] at c3
  rw [ex_p] at c4
  rw [ex_s1] at c7
  rw [ex_s2] at c8
  have c1 : PCalls Tryd.prog G 12 [.list 5 [.agg [.val (.string ⟨#[99]⟩), .val (.int .i64 0), .val (.int .i64 0), .val (.int .i64 0), .val (.int .i64 5)], .agg [.val (.string ⟨#[104]⟩), .val (.int .i64 1), .val (.int .i64 0), .val (.int .i64 0), .val (.int .i64 6)], .agg [.val (.string ⟨#[99, 104]⟩), .val (.int .i64 2), .val (.int .i64 0), .val (.int .i64 0), .val (.int .i64 9)]], .val (.string ⟨#[99, 104, 99]⟩)] [] _ := c1
  have c2 : PCalls Tryd.prog G 12 [.list 5 [.agg [.val (.string ⟨#[99]⟩), .val (.int .i64 0), .val (.int .i64 0), .val (.int .i64 0), .val (.int .i64 5)], .agg [.val (.string ⟨#[104]⟩), .val (.int .i64 1), .val (.int .i64 0), .val (.int .i64 0), .val (.int .i64 6)], .agg [.val (.string ⟨#[99, 104]⟩), .val (.int .i64 2), .val (.int .i64 0), .val (.int .i64 0), .val (.int .i64 9)]], .val (.string ⟨#[99, 104, 45, 99]⟩)] [] _ := c2
  have c3 : PCalls Tryd.prog G 22 [.list 5 [.agg [.val (.string ⟨#[99]⟩), .val (.int .i64 0), .val (.int .i64 0), .val (.int .i64 0), .val (.int .i64 5)], .agg [.val (.string ⟨#[104]⟩), .val (.int .i64 1), .val (.int .i64 0), .val (.int .i64 0), .val (.int .i64 6)], .agg [.val (.string ⟨#[99, 104]⟩), .val (.int .i64 2), .val (.int .i64 0), .val (.int .i64 0), .val (.int .i64 9)]], .list 1 [.val (.int .i64 0), .val (.int .i64 1)]] [] _ := c3
  have c4 : PCalls Tryd.prog G 19 [.val (.string ⟨#[97, 32, 97, 32, 48, 32, 48, 32, 53, 10, 65, 32, 97, 32, 48, 32, 49, 32, 54, 10]⟩)] [] _ := c4
  have c7 : PCalls Tryd.prog G 25 [.list 5 [.agg [.val (.string ⟨#[99]⟩), .val (.int .i64 0), .val (.int .i64 0), .val (.int .i64 0), .val (.int .i64 5)], .agg [.val (.string ⟨#[104]⟩), .val (.int .i64 1), .val (.int .i64 0), .val (.int .i64 0), .val (.int .i64 6)], .agg [.val (.string ⟨#[99, 104]⟩), .val (.int .i64 2), .val (.int .i64 0), .val (.int .i64 0), .val (.int .i64 9)]], .list 1 [.val (.int .i64 0), .val (.int .i64 1)]] [] _ := c7
  have c8 : PCalls Tryd.prog G 25 [.list 5 [.agg [.val (.string ⟨#[99]⟩), .val (.int .i64 0), .val (.int .i64 0), .val (.int .i64 0), .val (.int .i64 5)], .agg [.val (.string ⟨#[104]⟩), .val (.int .i64 1), .val (.int .i64 0), .val (.int .i64 0), .val (.int .i64 6)], .agg [.val (.string ⟨#[99, 104]⟩), .val (.int .i64 2), .val (.int .i64 0), .val (.int .i64 0), .val (.int .i64 9)]], .list 1 [.val (.int .i64 2)]] [] _ := c8
  have c5 : PCalls Tryd.prog G 14 [wP [2, 0], .list 1 [.val (.int .i64 2), .val (.int .i64 0)]] [] _ := c5
  have c6 : PCalls Tryd.prog G 14 [wP [2], .list 1 [.val (.int .i64 2)]] [] _ := c6
  (refine PCalls_f Tryd.func15 rfl Tryd.ntmps15 Tryd.results15 (by simp) fun fin hfin => ?_; have hnm : True := trivial; simp (maxSteps := 2000000) (disch := omega) only [evb, evd, pbuiltin, constPV, pnck, seqK, blockK, scopeK, pbin, pun, ppick, plen, piaddr, pindex, pfield, pslice, pbound, pconv, pelems, pextract, pmm, PV.mem?, PV.one, PV.cells, pageq, peqs, peq1, pmakes, pstore, pbytes, pmark, pusd, pust, psrc, pkey, pnile, pcap, pgrow, List.set, Value.cells, ↓popG_eq, ↓pop.eq_1, ↓List.getElem?_map, ↓List.getElem?_cons_zero, ↓List.getElem?_cons_succ, Value.oneCell', Nat.reduceAdd, Nat.reduceMul, Nat.reduceSub, Nat.reduceLeDiff, Nat.reduceEqDiff, ↓reduceIte, ne_eq, reduceCtorEq, forall_const, exists_and_left, exists_eq_left', eq_self, Nat.reduceLT, Int.reduceLT, Int.reduceLE, Int.reduceToNat, Int.reduceAdd, Int.reduceSub, Int.reduceNeg, hnm, Tryd.tf0, Tryd.tf1, Tryd.tf2, Tryd.tf3, Tryd.tf4, Tryd.tf9, Tryd.tf22, Tryd.tf23, Tryd.tf28, Tryd.tf36, Tryd.tf37, Tryd.tf42, Tryd.tf45, Tryd.teq45, Tryd.teq94, Tryd.teq104, Tryd.teq113, Tryd.teq114, Tryd.call12, Tryd.call14, Tryd.call19, Tryd.call22, Tryd.call25])
  repeat' (first
    | (with_reducible apply W_seq_k; intro nx hnx)
    | (with_reducible first | apply W_block | apply W_scope)
    | (with_reducible refine W_prune 2047 ?_; simp only [prb, Nat.reducePow, Nat.reduceDiv, Nat.reduceMod, Nat.reduceBEq]; with_reducible apply W_region_l)
    | (with_reducible refine WL_born (by simp) rfl (by simp) ?_; simp only [elemsOf, nl, List.map_cons, List.map_nil, Nat.reduceEqDiff, ↓reduceIte, List.take_succ_cons, List.take_zero, List.range_succ, List.range_zero, List.nil_append, List.cons_append, List.map_append, List.drop_succ_cons, List.drop_zero, Nat.reduceMul, Nat.zero_mul, Nat.one_mul, Nat.reduceAdd])
    | (with_reducible refine WL_bornH (by simp) (by simp) ?_ ?_ ?_; (· simp [frz, frz1, hnm]); (· simp [frz1, hnm, PV.one, Value.oneCell']); simp only [elemsOf, nl, List.map_cons, List.map_nil, Nat.reduceEqDiff, ↓reduceIte, List.take_succ_cons, List.take_zero, List.range_succ, List.range_zero, List.nil_append, List.cons_append, List.map_append, List.drop_succ_cons, List.drop_zero, Nat.reduceMul, Nat.zero_mul, Nat.one_mul, Nat.reduceAdd])
    | ((first | (with_reducible apply WL_op; intro nx hnx) | with_reducible refine Ev_out ?_ | (with_reducible refine pfresh_k hnm fun nm hnm => ?_; (try simp only [fmb] at hnm)) | (with_reducible refine pborn_im ?_; simp only [elemsOf, nl, List.map_cons, List.map_nil, Nat.reduceEqDiff, ↓reduceIte, List.take_succ_cons, List.take_zero, List.range_succ, List.range_zero, List.nil_append, List.cons_append, List.map_append, List.drop_succ_cons, List.drop_zero, Nat.reduceMul, Nat.zero_mul, Nat.one_mul, Nat.reduceAdd])); try (simp (maxSteps := 2000000) (disch := omega) only [evb, evd, pbuiltin, constPV, pnck, seqK, blockK, scopeK, pbin, pun, ppick, plen, piaddr, pindex, pfield, pslice, pbound, pconv, pelems, pextract, pmm, PV.mem?, PV.one, PV.cells, pageq, peqs, peq1, pmakes, pstore, pbytes, pmark, pusd, pust, psrc, pkey, pnile, pcap, pgrow, List.set, Value.cells, ↓popG_eq, ↓pop.eq_1, ↓List.getElem?_map, ↓List.getElem?_cons_zero, ↓List.getElem?_cons_succ, Value.oneCell', Nat.reduceAdd, Nat.reduceMul, Nat.reduceSub, Nat.reduceLeDiff, Nat.reduceEqDiff, ↓reduceIte, ne_eq, reduceCtorEq, forall_const, exists_and_left, exists_eq_left', eq_self, Nat.reduceLT, Int.reduceLT, Int.reduceLE, Int.reduceToNat, Int.reduceAdd, Int.reduceSub, Int.reduceNeg, hnm, Tryd.tf0, Tryd.tf1, Tryd.tf2, Tryd.tf3, Tryd.tf4, Tryd.tf9, Tryd.tf22, Tryd.tf23, Tryd.tf28, Tryd.tf36, Tryd.tf37, Tryd.tf42, Tryd.tf45, Tryd.teq45, Tryd.teq94, Tryd.teq104, Tryd.teq113, Tryd.teq114, Tryd.call12, Tryd.call14, Tryd.call19, Tryd.call22, Tryd.call25]); repeat (refine And.intro (by omega) ?_))
    | ((with_reducible first | apply WL_nil | apply W_label | apply W_skip | apply W_exit | apply W_ret); try simp only [seqK, blockK, scopeK, ↓reduceIte, Nat.reduceEqDiff])
    | (with_reducible apply pguard_intro <;> (intro hc; (try simp only [hcb, reduceCtorEq, forall_const, ne_eq] at hc); first | (exfalso; omega) | (exfalso; exact hc trivial) | refine Ev_in ?_))
    | (with_reducible apply W_cond_k; intro _ _ ea eb; (simp only [condK, cob, opnd, constPV, Nat.reduceEqDiff, Nat.reduceLT, ↓reduceIte, hcb, reduceCtorEq, forall_const, ne_eq]); subst ea eb; first | (refine ⟨fun hc => ?_, fun hc => ?_⟩ <;> first | (exfalso; omega) | (exfalso; exact hc trivial) | skip) | skip)
    | (with_reducible apply hnx; clear hnx nx)
    | (with_reducible refine And.intro (by omega) ?_)
    | (with_reducible refine And.intro ?_ ?_)
    | (with_reducible refine pcall_k (c1) ?_; rintro _ _ ⟨rfl, rfl⟩ -; refine Ev_in ?_)
    | (with_reducible refine pcall_k (c2) ?_; rintro _ _ ⟨rfl, rfl⟩ -; refine Ev_in ?_)
    | (with_reducible refine pcall_k (c3) ?_; rintro _ _ ⟨rfl, rfl⟩ -; refine Ev_in ?_)
    | (with_reducible refine pcall_k (c4) ?_; rintro _ _ ⟨rfl, rfl⟩ -; refine Ev_in ?_)
    | (with_reducible refine pcall_k (c5) ?_; rintro _ _ ⟨rfl, rfl⟩ -; refine Ev_in ?_)
    | (with_reducible refine pcall_k (c6) ?_; rintro _ _ ⟨rfl, rfl⟩ -; refine Ev_in ?_)
    | (with_reducible refine pcall_k (c7) ?_; rintro _ _ ⟨rfl, rfl⟩ -; refine Ev_in ?_)
    | (with_reducible refine pcall_k (c8) ?_; rintro _ _ ⟨rfl, rfl⟩ -; refine Ev_in ?_)
    | (clear hnx nx; with_reducible apply hnx; clear hnx nx)
    | (clear hnx nx; clear hnx nx; with_reducible apply hnx; clear hnx nx)
    | (clear hnx nx; clear hnx nx; clear hnx nx; with_reducible apply hnx; clear hnx nx))
  all_goals first | exact absurd trivial hc | contradiction | exact fun h => False.elim h | (exfalso; omega) | (exfalso; have hc := of_decide_eq_false hc; omega) | (exfalso; simp only [Bool.not_false, Bool.not_true, decide_eq_true_eq, decide_eq_false_iff_not] at *; omega) | skip
  all_goals
    refine hfin _ _ (Fin_ret1 rfl (Sub_nil _) ?_); simp only [List.getD_cons_zero, List.getD_cons_succ, fr_getD_cons, fr_getD_nil, Nat.reduceEqDiff, Nat.reduceLT, ↓reduceIte]
    exact ⟨rfl, by trivial⟩
end Go.PM

namespace Go.PM
open Go.Proofs
attribute [local irreducible] W PCalls pcall pcallI WL
set_option maxRecDepth 100000
set_option maxHeartbeats 8000000
/-- The pieces that are no letters. -/
def oddL : List (List UInt8) := [[32], [45], [49], [122], [115, 115], [99], [195], [10]]
def pieceF (a : List Ltr) (x : Int) : List UInt8 :=
  if arF x (a.length + 14) < a.length then (a.getD (arF x (a.length + 14)).toNat default).text
  else if arF x (a.length + 14) < a.length + 2 then oddL.getD (arF (x.tdiv 64) 8).toNat []
  else (a.getD ((arF x (a.length + 14) - a.length - 2) % a.length).toNat default).text
def textM (a : List Ltr) (l : List Int) : List UInt8 := (l.take 40).flatMap (pieceF a)
theorem piece_len {a : List Ltr} (ht : ∀ x ∈ a, x.text.length ≤ 4) (x : Int) : (pieceF a x).length ≤ 4 := by
  have hd : ∀ i, (a.getD i default).text.length ≤ 4 := by
    intro i
    by_cases hi : i < a.length
    · rw [List.getD_eq_getElem?_getD, List.getElem?_eq_getElem hi]
      exact ht _ (List.getElem_mem hi)
    · rw [List.getD_eq_getElem?_getD, List.getElem?_eq_none (by omega)]
      decide
  have ho : ∀ i, (oddL.getD i []).length ≤ 4 := by
    intro i
    have h : ∀ x ∈ oddL, x.length ≤ 4 := by decide
    by_cases hi : i < oddL.length
    · rw [List.getD_eq_getElem?_getD, List.getElem?_eq_getElem hi]
      exact h _ (List.getElem_mem hi)
    · rw [List.getD_eq_getElem?_getD, List.getElem?_eq_none (by omega)]
      simp
  unfold pieceF
  split
  · exact hd _
  split
  · exact ho _
  · exact hd _
theorem textM_len {a : List Ltr} (ht : ∀ x ∈ a, x.text.length ≤ 4) (l : List Int) : ((l.flatMap (pieceF a))).length ≤ 4 * l.length := by
  induction l with
  | nil => simp
  | cons x r ih =>
    have := piece_len ht x
    rw [List.flatMap_cons, List.length_append, List.length_cons]
    omega
theorem tdiv64 (b : Int) (h : i64 b) : i64 (b.tdiv 64) := by
  unfold i64 at h ⊢
  by_cases h0 : 0 ≤ b
  · rw [Int.tdiv_eq_ediv_of_nonneg h0]
    omega
  · obtain ⟨c, rfl⟩ : ∃ c, b = -c := ⟨-b, by omega⟩
    rw [Int.neg_tdiv, Int.tdiv_eq_ediv_of_nonneg (by omega)]
    omega
theorem textM_c (G : Globs) (a : List Ltr) (l : List Int) (ha : a.length ≤ 1000) (ha1 : 1 ≤ a.length) (ht : ∀ x ∈ a, x.text.length ≤ 4) (hl : okI l) : PCalls Tryd.prog G 10 [ltsP a, wP l] [] (fun res H => res = pstr (textM a l) ∧ H = []) := by
  have hl1 := hl.1
  (refine PCalls_f Tryd.func10 rfl Tryd.ntmps10 Tryd.results10 (by simp) fun fin hfin => ?_; have hnm : True := trivial; simp (maxSteps := 2000000) (disch := omega) only [evb, evd, pbuiltin, constPV, pnck, seqK, blockK, scopeK, pbin, pun, ppick, plen, piaddr, pindex, pfield, pslice, pbound, pconv, pelems, pextract, pmm, PV.mem?, PV.one, PV.cells, pageq, peqs, peq1, pmakes, pstore, pbytes, pmark, pusd, pust, psrc, pkey, pnile, pcap, pgrow, List.set, Value.cells, ↓popG_eq, ↓pop.eq_1, ↓List.getElem?_map, ↓List.getElem?_cons_zero, ↓List.getElem?_cons_succ, Value.oneCell', Nat.reduceAdd, Nat.reduceMul, Nat.reduceSub, Nat.reduceLeDiff, Nat.reduceEqDiff, ↓reduceIte, ne_eq, reduceCtorEq, forall_const, exists_and_left, exists_eq_left', eq_self, Nat.reduceLT, Int.reduceLT, Int.reduceLE, Int.reduceToNat, Int.reduceAdd, Int.reduceSub, Int.reduceNeg, hnm, Tryd.tf0, Tryd.tf3, Tryd.tf4, Tryd.tf8, Tryd.tf9, Tryd.tf22, Tryd.tf23, Tryd.tf26, Tryd.tf45, Tryd.teq45, Tryd.teq94, Tryd.teq104, Tryd.teq113, Tryd.teq114, Tryd.call32])
  repeat' (first
    | (with_reducible apply W_seq_k; intro nx hnx)
    | (with_reducible first | apply W_block | apply W_scope)
    | (with_reducible refine W_prune 243 ?_; simp only [prb, Nat.reducePow, Nat.reduceDiv, Nat.reduceMod, Nat.reduceBEq]; with_reducible apply W_region_l)
    | ((first | (with_reducible apply WL_op; intro nx hnx) | with_reducible refine Ev_out ?_ | (with_reducible refine pfresh_k hnm fun nm hnm => ?_; (try simp only [fmb] at hnm)) | (with_reducible refine pborn_mu hnm fun nm hnm => ?_; (try simp only [fmb] at hnm))); try (simp (maxSteps := 2000000) (disch := omega) only [evb, evd, pbuiltin, constPV, pnck, seqK, blockK, scopeK, pbin, pun, ppick, plen, piaddr, pindex, pfield, pslice, pbound, pconv, pelems, pextract, pmm, PV.mem?, PV.one, PV.cells, pageq, peqs, peq1, pmakes, pstore, pbytes, pmark, pusd, pust, psrc, pkey, pnile, pcap, pgrow, List.set, Value.cells, ↓popG_eq, ↓pop.eq_1, ↓List.getElem?_map, ↓List.getElem?_cons_zero, ↓List.getElem?_cons_succ, Value.oneCell', Nat.reduceAdd, Nat.reduceMul, Nat.reduceSub, Nat.reduceLeDiff, Nat.reduceEqDiff, ↓reduceIte, ne_eq, reduceCtorEq, forall_const, exists_and_left, exists_eq_left', eq_self, Nat.reduceLT, Int.reduceLT, Int.reduceLE, Int.reduceToNat, Int.reduceAdd, Int.reduceSub, Int.reduceNeg, hnm, Tryd.tf0, Tryd.tf3, Tryd.tf4, Tryd.tf8, Tryd.tf9, Tryd.tf22, Tryd.tf23, Tryd.tf26, Tryd.tf45, Tryd.teq45, Tryd.teq94, Tryd.teq104, Tryd.teq113, Tryd.teq114, Tryd.call32]); repeat (refine And.intro (by omega) ?_))
    | ((with_reducible first | apply WL_nil | apply W_label | apply W_skip | apply W_exit | apply W_ret); try simp only [seqK, blockK, scopeK, ↓reduceIte, Nat.reduceEqDiff])
    | (with_reducible apply pguard_intro <;> (intro hc; (try simp only [hcb, reduceCtorEq, forall_const, ne_eq] at hc); first | (exfalso; omega) | (exfalso; exact hc trivial) | refine Ev_in ?_))
    | (with_reducible apply W_cond_k; intro _ _ ea eb; (simp only [condK, cob, opnd, constPV, Nat.reduceEqDiff, Nat.reduceLT, ↓reduceIte, hcb, reduceCtorEq, forall_const, ne_eq]); subst ea eb; first | (refine ⟨fun hc => ?_, fun hc => ?_⟩ <;> first | (exfalso; omega) | (exfalso; exact hc trivial) | skip) | skip)
    | (with_reducible apply hnx; clear hnx nx)
    | (with_reducible refine And.intro (by omega) ?_)
    | (with_reducible refine And.intro ?_ ?_)
    | (clear hnx nx; with_reducible apply hnx; clear hnx nx)
    | (clear hnx nx; clear hnx nx; with_reducible apply hnx; clear hnx nx)
    | (clear hnx nx; clear hnx nx; clear hnx nx; with_reducible apply hnx; clear hnx nx))
  refine W_loop_k (fun z τ => ∃ (i : Nat), i ≤ l.length ∧ i ≤ 40 ∧ z = 40 - i ∧ τ = ⟨fr 62 [(6, pn i), (5, pstr ((l.take i).flatMap (pieceF a))), (1, wP l), (0, ltsP a)], []⟩) 40
    ⟨fr 62 [(6, pn 0), (5, .val (.string ⟨#[]⟩)), (1, wP l), (0, ltsP a)], []⟩ (by
    exact Wk_fr (by simp only [wkb, Nat.reduceEqDiff, Nat.reduceLT, ↓reduceIte, pn]) (Sub_nil _)) ⟨0, by omega, by omega, by omega, rfl⟩ ?_
  rintro z τ ⟨i, hi, hi40, rfl, rfl⟩ lp hlp
  by_cases hil : i < l.length ∧ i < 40
  · obtain ⟨hil, hil2⟩ := hil
    have hgw : l[i]? = some l[i] := List.getElem?_eq_getElem hil
    have hsn : (l.take (i + 1)).flatMap (pieceF a) = (l.take i).flatMap (pieceF a) ++ pieceF a l[i] := by rw [List.take_add_one, hgw, List.flatMap_append]; simp
    have hx := hl.2 _ (List.getElem_mem hil)
    have ⟨hx1, hx2⟩ := hx
    obtain ⟨bq1, bq2⟩ := tdiv64 _ hx
    have hlen := textM_len ht (l.take i)
    rw [List.length_take] at hlen
    have hpl := piece_len ht l[i]
    have cr := around_c G l[i] (a.length + 14) (by omega) hx (by omega)
    have br := arF_bound l[i] (most := a.length + 14) (by omega)
    have co := around_c G (l[i].tdiv 64) 8 (by omega) (tdiv64 _ hx) (by omega)
    have bo := arF_bound (l[i].tdiv 64) (most := 8) (by omega)
    have hpd : pieceF a l[i] = if arF l[i] (a.length + 14) < a.length then (a.getD (arF l[i] (a.length + 14)).toNat default).text
      else if arF l[i] (a.length + 14) < a.length + 2 then oddL.getD (arF (l[i].tdiv 64) 8).toNat []
      else (a.getD ((arF l[i] (a.length + 14) - a.length - 2) % a.length).toNat default).text := rfl
    rw [hpd] at hsn hpl
    generalize arF (l[i].tdiv 64) 8 = y at *
    generalize arF l[i] (a.length + 14) = x at *
    generalize (l.take i).flatMap (pieceF a) = u at *
    by_cases h1 : x < a.length
    · have hj : x.toNat < a.length := by omega
      have hgx : a[x.toNat]? = some a[x.toNat] := List.getElem?_eq_getElem hj
      rw [if_pos h1, List.getD_eq_getElem?_getD, hgx] at hsn hpl
      simp only [Option.getD_some] at hsn hpl
      repeat' (first
    | (with_reducible apply W_seq_k; intro nx hnx)
    | (with_reducible first | apply W_block | apply W_scope)
    | (with_reducible refine W_prune 243 ?_; simp only [prb, Nat.reducePow, Nat.reduceDiv, Nat.reduceMod, Nat.reduceBEq]; with_reducible apply W_region_l)
    | ((first | (with_reducible apply WL_op; intro nx hnx) | with_reducible refine Ev_out ?_ | (with_reducible refine pfresh_k hnm fun nm hnm => ?_; (try simp only [fmb] at hnm)) | (with_reducible refine pborn_mu hnm fun nm hnm => ?_; (try simp only [fmb] at hnm))); try (simp (maxSteps := 2000000) (disch := omega) only [evb, evd, pbuiltin, constPV, pnck, seqK, blockK, scopeK, pbin, pun, ppick, plen, piaddr, pindex, pfield, pslice, pbound, pconv, pelems, pextract, pmm, PV.mem?, PV.one, PV.cells, pageq, peqs, peq1, pmakes, pstore, pbytes, pmark, pusd, pust, psrc, pkey, pnile, pcap, pgrow, List.set, Value.cells, ↓popG_eq, ↓pop.eq_1, ↓List.getElem?_map, ↓List.getElem?_cons_zero, ↓List.getElem?_cons_succ, Value.oneCell', Nat.reduceAdd, Nat.reduceMul, Nat.reduceSub, Nat.reduceLeDiff, Nat.reduceEqDiff, ↓reduceIte, ne_eq, reduceCtorEq, forall_const, exists_and_left, exists_eq_left', eq_self, Nat.reduceLT, Int.reduceLT, Int.reduceLE, Int.reduceToNat, Int.reduceAdd, Int.reduceSub, Int.reduceNeg, hnm, Tryd.tf0, Tryd.tf3, Tryd.tf4, Tryd.tf8, Tryd.tf9, Tryd.tf22, Tryd.tf23, Tryd.tf26, Tryd.tf45, Tryd.teq45, Tryd.teq94, Tryd.teq104, Tryd.teq113, Tryd.teq114, Tryd.call32, hgw, hgx]); repeat (refine And.intro (by omega) ?_))
    | ((with_reducible first | apply WL_nil | apply W_label | apply W_skip | apply W_exit | apply W_ret); try simp only [seqK, blockK, scopeK, ↓reduceIte, Nat.reduceEqDiff])
    | (with_reducible apply pguard_intro <;> (intro hc; (try simp only [hcb, reduceCtorEq, forall_const, ne_eq] at hc); first | (exfalso; omega) | (exfalso; exact hc trivial) | refine Ev_in ?_))
    | (with_reducible apply W_cond_k; intro _ _ ea eb; (simp only [condK, cob, opnd, constPV, Nat.reduceEqDiff, Nat.reduceLT, ↓reduceIte, hcb, reduceCtorEq, forall_const, ne_eq]); subst ea eb; first | (refine ⟨fun hc => ?_, fun hc => ?_⟩ <;> first | (exfalso; omega) | (exfalso; exact hc trivial) | skip) | skip)
    | (with_reducible apply hnx; clear hnx nx)
    | (with_reducible refine And.intro (by omega) ?_)
    | (with_reducible refine And.intro ?_ ?_)
    | (with_reducible refine pcall_k (cr) ?_; rintro _ _ ⟨rfl, rfl⟩ -; refine Ev_in ?_)
    | (clear hnx nx; with_reducible apply hnx; clear hnx nx)
    | (clear hnx nx; clear hnx nx; with_reducible apply hnx; clear hnx nx)
    | (clear hnx nx; clear hnx nx; clear hnx nx; with_reducible apply hnx; clear hnx nx))
      all_goals first | exact absurd trivial hc | contradiction | exact fun h => False.elim h | (exfalso; omega) | (exfalso; have hc := of_decide_eq_false hc; omega) | (exfalso; simp only [Bool.not_false, Bool.not_true, decide_eq_true_eq, decide_eq_false_iff_not] at *; omega) | skip
      all_goals
        refine hlp _ (40 - (i + 1)) ⟨fr 62 [(6, pn (i + 1)), (5, pstr ((l.take (i + 1)).flatMap (pieceF a))), (1, wP l), (0, ltsP a)], []⟩ (by omega) ?_ ⟨i + 1, by omega, by omega, rfl, rfl⟩
        rw [hsn]
        exact Wk_fr (by simp only [wkb, Nat.reduceEqDiff, Nat.reduceLT, ↓reduceIte, pn]) (Sub_nil _)
    · rw [if_neg h1] at hsn hpl
      by_cases h2 : x < a.length + 2
      · rw [if_pos h2] at hsn hpl
        have hget : ([PV.val (.string ⟨#[32]⟩), PV.val (.string ⟨#[45]⟩), PV.val (.string ⟨#[49]⟩), PV.val (.string ⟨#[122]⟩), PV.val (.string ⟨#[115, 115]⟩), PV.val (.string ⟨#[99]⟩), PV.val (.string ⟨#[195]⟩), PV.val (.string ⟨#[10]⟩)] : List PV).getD y.toNat PV.junk = pstr (oddL.getD y.toNat []) := by
          show (oddL.map pstr).getD y.toNat PV.junk = pstr (oddL.getD y.toNat [])
          have hl : y.toNat < oddL.length := by show y.toNat < 8; omega
          rw [List.getD_eq_getElem?_getD, List.getD_eq_getElem?_getD, List.getElem?_map, List.getElem?_eq_getElem hl]
          rfl
        generalize oddL.getD y.toNat [] = q at *
        repeat' (first
    | (with_reducible apply W_seq_k; intro nx hnx)
    | (with_reducible first | apply W_block | apply W_scope)
    | (with_reducible refine W_prune 243 ?_; simp only [prb, Nat.reducePow, Nat.reduceDiv, Nat.reduceMod, Nat.reduceBEq]; with_reducible apply W_region_l)
    | (with_reducible refine WL_born (by simp) rfl (by simp) ?_; simp only [elemsOf, nl, List.map_cons, List.map_nil, Nat.reduceEqDiff, ↓reduceIte, List.take_succ_cons, List.take_zero, List.range_succ, List.range_zero, List.nil_append, List.cons_append, List.map_append, List.drop_succ_cons, List.drop_zero, Nat.reduceMul, Nat.zero_mul, Nat.one_mul, Nat.reduceAdd])
    | ((first | (with_reducible apply WL_op; intro nx hnx) | with_reducible refine Ev_out ?_ | (with_reducible refine pfresh_k hnm fun nm hnm => ?_; (try simp only [fmb] at hnm)) | (with_reducible refine pborn_im ?_; simp only [elemsOf, nl, List.map_cons, List.map_nil, Nat.reduceEqDiff, ↓reduceIte, List.take_succ_cons, List.take_zero, List.range_succ, List.range_zero, List.nil_append, List.cons_append, List.map_append, List.drop_succ_cons, List.drop_zero, Nat.reduceMul, Nat.zero_mul, Nat.one_mul, Nat.reduceAdd])); try (simp (maxSteps := 2000000) (disch := omega) only [evb, evd, pbuiltin, constPV, pnck, seqK, blockK, scopeK, pbin, pun, ppick, plen, piaddr, pindex, pfield, pslice, pbound, pconv, pelems, pextract, pmm, PV.mem?, PV.one, PV.cells, pageq, peqs, peq1, pmakes, pstore, pbytes, pmark, pusd, pust, psrc, pkey, pnile, pcap, pgrow, List.set, Value.cells, ↓popG_eq, ↓pop.eq_1, ↓List.getElem?_map, ↓List.getElem?_cons_zero, ↓List.getElem?_cons_succ, Value.oneCell', Nat.reduceAdd, Nat.reduceMul, Nat.reduceSub, Nat.reduceLeDiff, Nat.reduceEqDiff, ↓reduceIte, ne_eq, reduceCtorEq, forall_const, exists_and_left, exists_eq_left', eq_self, Nat.reduceLT, Int.reduceLT, Int.reduceLE, Int.reduceToNat, Int.reduceAdd, Int.reduceSub, Int.reduceNeg, hnm, Tryd.tf0, Tryd.tf3, Tryd.tf4, Tryd.tf8, Tryd.tf9, Tryd.tf22, Tryd.tf23, Tryd.tf26, Tryd.tf45, Tryd.teq45, Tryd.teq94, Tryd.teq104, Tryd.teq113, Tryd.teq114, Tryd.call32, hgw, hget]); repeat (refine And.intro (by omega) ?_))
    | ((with_reducible first | apply WL_nil | apply W_label | apply W_skip | apply W_exit | apply W_ret); try simp only [seqK, blockK, scopeK, ↓reduceIte, Nat.reduceEqDiff])
    | (with_reducible apply pguard_intro <;> (intro hc; (try simp only [hcb, reduceCtorEq, forall_const, ne_eq] at hc); first | (exfalso; omega) | (exfalso; exact hc trivial) | refine Ev_in ?_))
    | (with_reducible apply W_cond_k; intro _ _ ea eb; (simp only [condK, cob, opnd, constPV, Nat.reduceEqDiff, Nat.reduceLT, ↓reduceIte, hcb, reduceCtorEq, forall_const, ne_eq]); subst ea eb; first | (refine ⟨fun hc => ?_, fun hc => ?_⟩ <;> first | (exfalso; omega) | (exfalso; exact hc trivial) | skip) | skip)
    | (with_reducible apply hnx; clear hnx nx)
    | (with_reducible refine And.intro (by omega) ?_)
    | (with_reducible refine And.intro ?_ ?_)
    | (with_reducible refine pcall_k (cr) ?_; rintro _ _ ⟨rfl, rfl⟩ -; refine Ev_in ?_)
    | (with_reducible refine pcall_k (co) ?_; rintro _ _ ⟨rfl, rfl⟩ -; refine Ev_in ?_)
    | (clear hnx nx; with_reducible apply hnx; clear hnx nx)
    | (clear hnx nx; clear hnx nx; with_reducible apply hnx; clear hnx nx)
    | (clear hnx nx; clear hnx nx; clear hnx nx; with_reducible apply hnx; clear hnx nx))
        all_goals first | exact absurd trivial hc | contradiction | exact fun h => False.elim h | (exfalso; omega) | (exfalso; have hc := of_decide_eq_false hc; omega) | (exfalso; simp only [Bool.not_false, Bool.not_true, decide_eq_true_eq, decide_eq_false_iff_not] at *; omega) | skip
        all_goals
          refine hlp _ (40 - (i + 1)) ⟨fr 62 [(6, pn (i + 1)), (5, pstr ((l.take (i + 1)).flatMap (pieceF a))), (1, wP l), (0, ltsP a)], []⟩ (by omega) ?_ ⟨i + 1, by omega, by omega, rfl, rfl⟩
          rw [hsn]
          exact Wk_fr (by simp only [wkb, Nat.reduceEqDiff, Nat.reduceLT, ↓reduceIte, pn]) (Sub_nil _)
      · rw [if_neg h2] at hsn hpl
        have hm1 : (x - a.length - 2).tmod a.length = (x - a.length - 2) % a.length := Int.tmod_eq_emod_of_nonneg (by omega)
        have hm2 := Int.emod_nonneg (x - a.length - 2) (show (a.length : Int) ≠ 0 by omega)
        have hm3 := Int.emod_lt_of_pos (x - a.length - 2) (show (0 : Int) < a.length by omega)
        generalize (x - a.length - 2) % a.length = v at *
        have hj : v.toNat < a.length := by omega
        have hgx : a[v.toNat]? = some a[v.toNat] := List.getElem?_eq_getElem hj
        rw [List.getD_eq_getElem?_getD, hgx] at hsn hpl
        simp only [Option.getD_some] at hsn hpl
        repeat' (first
    | (with_reducible apply W_seq_k; intro nx hnx)
    | (with_reducible first | apply W_block | apply W_scope)
    | (with_reducible refine W_prune 243 ?_; simp only [prb, Nat.reducePow, Nat.reduceDiv, Nat.reduceMod, Nat.reduceBEq]; with_reducible apply W_region_l)
    | ((first | (with_reducible apply WL_op; intro nx hnx) | with_reducible refine Ev_out ?_ | (with_reducible refine pfresh_k hnm fun nm hnm => ?_; (try simp only [fmb] at hnm)) | (with_reducible refine pborn_mu hnm fun nm hnm => ?_; (try simp only [fmb] at hnm))); try (simp (maxSteps := 2000000) (disch := omega) only [evb, evd, pbuiltin, constPV, pnck, seqK, blockK, scopeK, pbin, pun, ppick, plen, piaddr, pindex, pfield, pslice, pbound, pconv, pelems, pextract, pmm, PV.mem?, PV.one, PV.cells, pageq, peqs, peq1, pmakes, pstore, pbytes, pmark, pusd, pust, psrc, pkey, pnile, pcap, pgrow, List.set, Value.cells, ↓popG_eq, ↓pop.eq_1, ↓List.getElem?_map, ↓List.getElem?_cons_zero, ↓List.getElem?_cons_succ, Value.oneCell', Nat.reduceAdd, Nat.reduceMul, Nat.reduceSub, Nat.reduceLeDiff, Nat.reduceEqDiff, ↓reduceIte, ne_eq, reduceCtorEq, forall_const, exists_and_left, exists_eq_left', eq_self, Nat.reduceLT, Int.reduceLT, Int.reduceLE, Int.reduceToNat, Int.reduceAdd, Int.reduceSub, Int.reduceNeg, hnm, Tryd.tf0, Tryd.tf3, Tryd.tf4, Tryd.tf8, Tryd.tf9, Tryd.tf22, Tryd.tf23, Tryd.tf26, Tryd.tf45, Tryd.teq45, Tryd.teq94, Tryd.teq104, Tryd.teq113, Tryd.teq114, Tryd.call32, hgw, hgx, hm1]); repeat (refine And.intro (by omega) ?_))
    | ((with_reducible first | apply WL_nil | apply W_label | apply W_skip | apply W_exit | apply W_ret); try simp only [seqK, blockK, scopeK, ↓reduceIte, Nat.reduceEqDiff])
    | (with_reducible apply pguard_intro <;> (intro hc; (try simp only [hcb, reduceCtorEq, forall_const, ne_eq] at hc); first | (exfalso; omega) | (exfalso; exact hc trivial) | refine Ev_in ?_))
    | (with_reducible apply W_cond_k; intro _ _ ea eb; (simp only [condK, cob, opnd, constPV, Nat.reduceEqDiff, Nat.reduceLT, ↓reduceIte, hcb, reduceCtorEq, forall_const, ne_eq]); subst ea eb; first | (refine ⟨fun hc => ?_, fun hc => ?_⟩ <;> first | (exfalso; omega) | (exfalso; exact hc trivial) | skip) | skip)
    | (with_reducible apply hnx; clear hnx nx)
    | (with_reducible refine And.intro (by omega) ?_)
    | (with_reducible refine And.intro ?_ ?_)
    | (with_reducible refine pcall_k (cr) ?_; rintro _ _ ⟨rfl, rfl⟩ -; refine Ev_in ?_)
    | (clear hnx nx; with_reducible apply hnx; clear hnx nx)
    | (clear hnx nx; clear hnx nx; with_reducible apply hnx; clear hnx nx)
    | (clear hnx nx; clear hnx nx; clear hnx nx; with_reducible apply hnx; clear hnx nx))
        all_goals first | exact absurd trivial hc | contradiction | exact fun h => False.elim h | (exfalso; omega) | (exfalso; have hc := of_decide_eq_false hc; omega) | (exfalso; simp only [Bool.not_false, Bool.not_true, decide_eq_true_eq, decide_eq_false_iff_not] at *; omega) | skip
        all_goals
          refine hlp _ (40 - (i + 1)) ⟨fr 62 [(6, pn (i + 1)), (5, pstr ((l.take (i + 1)).flatMap (pieceF a))), (1, wP l), (0, ltsP a)], []⟩ (by omega) ?_ ⟨i + 1, by omega, by omega, rfl, rfl⟩
          rw [hsn]
          exact Wk_fr (by simp only [wkb, Nat.reduceEqDiff, Nat.reduceLT, ↓reduceIte, pn]) (Sub_nil _)
  · have he : l.take i = l.take 40 := by
      by_cases h : i < l.length
      · have : i = 40 := by omega
        rw [this]
      · rw [List.take_of_length_le (by omega), List.take_of_length_le (by omega)]
    repeat' (first
    | (with_reducible apply W_seq_k; intro nx hnx)
    | (with_reducible first | apply W_block | apply W_scope)
    | (with_reducible refine W_prune 243 ?_; simp only [prb, Nat.reducePow, Nat.reduceDiv, Nat.reduceMod, Nat.reduceBEq]; with_reducible apply W_region_l)
    | ((first | (with_reducible apply WL_op; intro nx hnx) | with_reducible refine Ev_out ?_ | (with_reducible refine pfresh_k hnm fun nm hnm => ?_; (try simp only [fmb] at hnm)) | (with_reducible refine pborn_mu hnm fun nm hnm => ?_; (try simp only [fmb] at hnm))); try (simp (maxSteps := 2000000) (disch := omega) only [evb, evd, pbuiltin, constPV, pnck, seqK, blockK, scopeK, pbin, pun, ppick, plen, piaddr, pindex, pfield, pslice, pbound, pconv, pelems, pextract, pmm, PV.mem?, PV.one, PV.cells, pageq, peqs, peq1, pmakes, pstore, pbytes, pmark, pusd, pust, psrc, pkey, pnile, pcap, pgrow, List.set, Value.cells, ↓popG_eq, ↓pop.eq_1, ↓List.getElem?_map, ↓List.getElem?_cons_zero, ↓List.getElem?_cons_succ, Value.oneCell', Nat.reduceAdd, Nat.reduceMul, Nat.reduceSub, Nat.reduceLeDiff, Nat.reduceEqDiff, ↓reduceIte, ne_eq, reduceCtorEq, forall_const, exists_and_left, exists_eq_left', eq_self, Nat.reduceLT, Int.reduceLT, Int.reduceLE, Int.reduceToNat, Int.reduceAdd, Int.reduceSub, Int.reduceNeg, hnm, Tryd.tf0, Tryd.tf3, Tryd.tf4, Tryd.tf8, Tryd.tf9, Tryd.tf22, Tryd.tf23, Tryd.tf26, Tryd.tf45, Tryd.teq45, Tryd.teq94, Tryd.teq104, Tryd.teq113, Tryd.teq114, Tryd.call32]); repeat (refine And.intro (by omega) ?_))
    | ((with_reducible first | apply WL_nil | apply W_label | apply W_skip | apply W_exit | apply W_ret); try simp only [seqK, blockK, scopeK, ↓reduceIte, Nat.reduceEqDiff])
    | (with_reducible apply pguard_intro <;> (intro hc; (try simp only [hcb, reduceCtorEq, forall_const, ne_eq] at hc); first | (exfalso; omega) | (exfalso; exact hc trivial) | refine Ev_in ?_))
    | (with_reducible apply W_cond_k; intro _ _ ea eb; (simp only [condK, cob, opnd, constPV, Nat.reduceEqDiff, Nat.reduceLT, ↓reduceIte, hcb, reduceCtorEq, forall_const, ne_eq]); subst ea eb; first | (refine ⟨fun hc => ?_, fun hc => ?_⟩ <;> first | (exfalso; omega) | (exfalso; exact hc trivial) | skip) | skip)
    | (with_reducible apply hnx; clear hnx nx)
    | (with_reducible refine And.intro (by omega) ?_)
    | (with_reducible refine And.intro ?_ ?_)
    | (clear hnx nx; with_reducible apply hnx; clear hnx nx)
    | (clear hnx nx; clear hnx nx; with_reducible apply hnx; clear hnx nx)
    | (clear hnx nx; clear hnx nx; clear hnx nx; with_reducible apply hnx; clear hnx nx))
    all_goals first | exact absurd trivial hc | contradiction | exact fun h => False.elim h | (exfalso; omega) | (exfalso; have hc := of_decide_eq_false hc; omega) | (exfalso; simp only [Bool.not_false, Bool.not_true, decide_eq_true_eq, decide_eq_false_iff_not] at *; omega) | skip
    all_goals
      refine hfin _ _ (Fin_ret1 rfl (Sub_nil _) ?_); simp only [List.getD_cons_zero, List.getD_cons_succ, fr_getD_cons, fr_getD_nil, Nat.reduceEqDiff, Nat.reduceLT, ↓reduceIte]
      exact ⟨by rw [he]; rfl, by trivial⟩
end Go.PM

namespace Go.PM
open Go.Proofs
attribute [local irreducible] W PCalls pcall pcallI WL
set_option maxRecDepth 100000
set_option maxHeartbeats 8000000
end Go.PM

namespace Go.PM
open Go.Proofs
attribute [local irreducible] W PCalls pcall pcallI WL
set_option maxRecDepth 100000
set_option maxHeartbeats 8000000
theorem letters_text {l : List Int} : ∀ x ∈ lettersF l, x.text.length ≤ 4 := by
  intro x hx
  obtain ⟨j, hj, rfl⟩ := List.mem_iff_getElem.1 hx
  exact (valid_text (letters_valid l) hj).2
end Go.PM

namespace Go.PM
open Go.Proofs
attribute [local irreducible] W PCalls pcall pcallI WL
set_option maxRecDepth 100000
set_option maxHeartbeats 8000000
theorem law5 (G : Globs) (l k : List Int) (raw : List UInt8) (hl : okI l) (hk : okI k) (hr : (raw.length : Int) ≤ 9223372036854775807) : PCalls Tryd.prog G 5 [wP l, wP k, pstr raw] [] (fun res H => res = pbool true ∧ H = []) := by
  have hv := letters_valid l
  have hA := valid_HA hv
  have hn := lettersF_len l
  have htx := letters_text (l := l)
  have c1 := letters_c G l hl
  have c2 := textM_c G (lettersF l) k (by omega) (by omega) letters_text hk
  have c3 := short_c G raw 30 (by omega)
  have ht := textM_len (letters_text (l := l)) (k.take 40)
  rw [List.length_take] at ht
  have htl : (textM (lettersF l) k).length ≤ 160 := by
    unfold textM
    omega
  have hrl : (raw.take 30).length ≤ 30 := by rw [List.length_take]; omega
  have c3 : PCalls Tryd.prog G 11 [pstr raw, .val (.int .i64 30)] [] _ := c3
  generalize raw.take 30 = r at *
  generalize lettersF l = a at *
  generalize textM a k = t at *
  have c9 := lives_c G
  obtain ⟨s, hs⟩ : ∃ s, s = t ++ r := ⟨_, rfl⟩
  have hsl : s.length ≤ 190 := by rw [hs, List.length_append]; omega
  have d1 := read_f G a s hA (by omega)
  obtain ⟨s1, s2, s3, s4⟩ := readW_sound hv s.length s (Nat.le_refl _)
  have hr1 : (readF a s).1 = (readW a s.length s).1 := by rw [readF, if_pos hv]
  have hr2 : (readF a s).2 = if (readW a s.length s).2 = s.length then -1 else ((readW a s.length s).2 : Int) := by rw [readF, if_pos hv]
  have hwl := readF_len (a := a) (s := s)
  rw [hr1, hr2] at d1
  rw [hr1] at hwl
  clear hr1 hr2
  generalize readW a s.length s = q at *
  obtain ⟨w, e⟩ := q
  try simp only at s1 s2 s3 s4 d1 hwl
  have hwe : writeF a w = (textF a w, 0) := by rw [writeF, if_pos hv, if_pos s2]
  have d2 := write_c G a w hA (by omega)
  rw [hwe] at d2
  try simp only at d2
  rw [s3] at d2
  by_cases he : e = s.length
  · rw [if_pos he] at d1
    rw [he, List.take_length] at d2
    (refine PCalls_f Tryd.func5 rfl Tryd.ntmps5 Tryd.results5 (by simp) fun fin hfin => ?_; have hnm : True := trivial; simp (maxSteps := 2000000) (disch := omega) only [evb, evd, pbuiltin, constPV, pnck, seqK, blockK, scopeK, pbin, pun, ppick, plen, piaddr, pindex, pfield, pslice, pbound, pconv, pelems, pextract, pmm, PV.mem?, PV.one, PV.cells, pageq, peqs, peq1, pmakes, pstore, pbytes, pmark, pusd, pust, psrc, pkey, pnile, pcap, pgrow, List.set, Value.cells, ↓popG_eq, ↓pop.eq_1, ↓List.getElem?_map, ↓List.getElem?_cons_zero, ↓List.getElem?_cons_succ, Value.oneCell', Nat.reduceAdd, Nat.reduceMul, Nat.reduceSub, Nat.reduceLeDiff, Nat.reduceEqDiff, ↓reduceIte, ne_eq, reduceCtorEq, forall_const, exists_and_left, exists_eq_left', eq_self, Nat.reduceLT, Int.reduceLT, Int.reduceLE, Int.reduceToNat, Int.reduceAdd, Int.reduceSub, Int.reduceNeg, hnm, Tryd.tf0, Tryd.tf1, Tryd.tf3, Tryd.tf4, Tryd.tf9, Tryd.tf22, Tryd.tf23, Tryd.tf28, Tryd.tf36, Tryd.tf42, Tryd.tf45, Tryd.teq45, Tryd.teq94, Tryd.teq104, Tryd.teq113, Tryd.teq114, Tryd.call9, Tryd.call10, Tryd.call11, Tryd.call12, Tryd.call15, Tryd.call22])
    repeat' (first
    | (with_reducible apply W_seq_k; intro nx hnx)
    | (with_reducible first | apply W_block | apply W_scope)
    | (with_reducible refine W_prune 262087 ?_; simp only [prb, Nat.reducePow, Nat.reduceDiv, Nat.reduceMod, Nat.reduceBEq]; first | (with_reducible apply W_region_l) | with_reducible refine W_region_draw (id := 22) 1 (.op 0 true (.op 1 true (.op 2 true (.op 3 true (.op 4 true (.op 5 true (.op 6 true (.op 7 true (.op 8 true (.op 9 true (.op 10 true (.op 11 true (.op 12 true (.op 13 true (.op 14 true (.op 15 true (.op 16 true (.op 17 true (.op 18 true (.op 19 true (.op 20 true (.op 21 true (.op 22 true (.op 23 true (.op 24 true (.done)))))))))))))))))))))))))) (by kernel_rfl) ?_)
    | ((first | (with_reducible apply WL_op; intro nx hnx) | with_reducible refine Ev_out ?_ | (with_reducible apply popsD_op; intro nx hnx) | (with_reducible refine popsD_alt ?_ ?_; intro nx hnx)); try (simp (maxSteps := 2000000) (disch := omega) only [evb, evd, pbuiltin, constPV, pnck, seqK, blockK, scopeK, pbin, pun, ppick, plen, piaddr, pindex, pfield, pslice, pbound, pconv, pelems, pextract, pmm, PV.mem?, PV.one, PV.cells, pageq, peqs, peq1, pmakes, pstore, pbytes, pmark, pusd, pust, psrc, pkey, pnile, pcap, pgrow, List.set, Value.cells, ↓popG_eq, ↓pop.eq_1, ↓List.getElem?_map, ↓List.getElem?_cons_zero, ↓List.getElem?_cons_succ, Value.oneCell', Nat.reduceAdd, Nat.reduceMul, Nat.reduceSub, Nat.reduceLeDiff, Nat.reduceEqDiff, ↓reduceIte, ne_eq, reduceCtorEq, forall_const, exists_and_left, exists_eq_left', eq_self, Nat.reduceLT, Int.reduceLT, Int.reduceLE, Int.reduceToNat, Int.reduceAdd, Int.reduceSub, Int.reduceNeg, hnm, Tryd.tf0, Tryd.tf1, Tryd.tf3, Tryd.tf4, Tryd.tf9, Tryd.tf22, Tryd.tf23, Tryd.tf28, Tryd.tf36, Tryd.tf42, Tryd.tf45, Tryd.teq45, Tryd.teq94, Tryd.teq104, Tryd.teq113, Tryd.teq114, Tryd.call9, Tryd.call10, Tryd.call11, Tryd.call12, Tryd.call15, Tryd.call22, ← hs, List.take_length]); repeat (refine And.intro (by omega) ?_))
    | ((with_reducible first | apply WL_nil | apply W_label | apply W_skip | apply W_exit | apply W_ret | apply popsD_done); try simp only [seqK, blockK, scopeK, ↓reduceIte, Nat.reduceEqDiff])
    | with_reducible exact popsD_stop
    | (with_reducible apply pguard_intro <;> (intro hc; (try simp only [hcb, reduceCtorEq, forall_const, ne_eq] at hc); first | (exfalso; omega) | (exfalso; exact hc trivial) | refine Ev_in ?_))
    | (with_reducible apply W_cond_k; intro _ _ ea eb; (simp only [condK, cob, opnd, constPV, Nat.reduceEqDiff, Nat.reduceLT, ↓reduceIte, hcb, reduceCtorEq, forall_const, ne_eq]); subst ea eb; first | (refine ⟨fun hc => ?_, fun hc => ?_⟩ <;> first | (exfalso; omega) | (exfalso; exact hc trivial) | skip) | skip)
    | (with_reducible apply hnx; clear hnx nx)
    | (with_reducible refine And.intro (by omega) ?_)
    | (with_reducible refine And.intro ?_ ?_)
    | (with_reducible refine pcall_k (c1) ?_; rintro _ _ ⟨rfl, rfl⟩ -; refine Ev_in ?_)
    | (with_reducible refine pcall_k (c2) ?_; rintro _ _ ⟨rfl, rfl⟩ -; refine Ev_in ?_)
    | (with_reducible refine pcall_k (c3) ?_; rintro _ _ ⟨rfl, rfl⟩ -; refine Ev_in ?_)
    | (with_reducible refine pcall_k (d1) ?_; rintro _ _ ⟨rfl, rfl⟩ -; refine Ev_in ?_)
    | (with_reducible refine pcall_k (d2) ?_; rintro _ _ ⟨rfl, rfl⟩ -; refine Ev_in ?_)
    | (clear hnx nx; with_reducible apply hnx; clear hnx nx)
    | (clear hnx nx; clear hnx nx; with_reducible apply hnx; clear hnx nx)
    | (clear hnx nx; clear hnx nx; clear hnx nx; with_reducible apply hnx; clear hnx nx))
    all_goals first | exact absurd trivial hc | contradiction | exact fun h => False.elim h | (exfalso; omega) | (exfalso; have hc := of_decide_eq_false hc; omega) | (exfalso; simp only [Bool.not_false, Bool.not_true, decide_eq_true_eq, decide_eq_false_iff_not] at *; omega) | skip
    refine W_loop_k (fun z τ => ∃ (i : Nat), i ≤ w.length + 1 ∧ z = w.length + 1 - i ∧ τ = ⟨fr 126 [(14, pn i), (13, pint .i64 (textF a (w.take i)).length), (9, wP w), (8, pstr s), (7, ltsP a)], []⟩) (w.length + 1)
      ⟨fr 126 [(14, pn 0), (13, pint .i64 (textF a (w.take 0)).length), (9, wP w), (8, pstr s), (7, ltsP a)], []⟩ (by
      exact Wk_fr (by simp only [wkb, Nat.reduceEqDiff, Nat.reduceLT, ↓reduceIte, pn, List.take_zero, textF, List.flatMap_nil, List.length_nil]) (Sub_nil _)) ⟨0, by omega, by omega, rfl⟩ ?_
    rintro z τ ⟨i, hi, rfl, rfl⟩ lp hlp
    have hsat := fun h : i ≤ w.length => sound_at w s i s1 h s2
    by_cases hil : i < w.length
    · obtain ⟨q1, q2⟩ := hsat (by omega)
      rw [List.drop_eq_getElem_cons hil] at q1
      obtain ⟨hk, h0, h1, h2, h3, h4⟩ := q1
      have hgw : w[i]? = some w[i] := List.getElem?_eq_getElem hil
      have hgx : a[w[i].toNat]? = some a[w[i].toNat] := List.getElem?_eq_getElem hk
      have hti := htx _ (List.getElem_mem hk)
      have hsn : (textF a (w.take (i + 1))).length = (textF a (w.take i)).length + a[w[i].toNat].text.length := by
        rw [List.take_add_one, hgw]
        unfold textF
        rw [List.flatMap_append, List.length_append]
        simp only [Option.toList_some, List.flatMap_cons, List.flatMap_nil, List.append_nil]
        rw [getD_lt hk]
      obtain ⟨u, hu⟩ : ∃ u, u = a[w[i].toNat].text := ⟨_, rfl⟩
      rw [← hu] at h1 h2 h3 h4 hti hsn
      generalize textF a (w.take i) = T at *
      repeat' (first
    | (with_reducible apply W_seq_k; intro nx hnx)
    | (with_reducible first | apply W_block | apply W_scope)
    | (with_reducible refine W_prune 262087 ?_; simp only [prb, Nat.reducePow, Nat.reduceDiv, Nat.reduceMod, Nat.reduceBEq]; first | (with_reducible apply W_region_l) | with_reducible refine W_region_draw (id := 22) 1 (.op 0 true (.op 1 true (.op 2 true (.op 3 true (.op 4 true (.op 5 true (.op 6 true (.op 7 true (.op 8 true (.op 9 true (.op 10 true (.op 11 true (.op 12 true (.op 13 true (.op 14 true (.op 15 true (.op 16 true (.op 17 true (.op 18 true (.op 19 true (.op 20 true (.op 21 true (.op 22 true (.op 23 true (.op 24 true (.done)))))))))))))))))))))))))) (by kernel_rfl) ?_)
    | ((first | (with_reducible apply WL_op; intro nx hnx) | with_reducible refine Ev_out ?_ | (with_reducible apply popsD_op; intro nx hnx) | (with_reducible refine popsD_alt ?_ ?_; intro nx hnx)); try (simp (maxSteps := 2000000) (disch := omega) only [evb, evd, pbuiltin, constPV, pnck, seqK, blockK, scopeK, pbin, pun, ppick, plen, piaddr, pindex, pfield, pslice, pbound, pconv, pelems, pextract, pmm, PV.mem?, PV.one, PV.cells, pageq, peqs, peq1, pmakes, pstore, pbytes, pmark, pusd, pust, psrc, pkey, pnile, pcap, pgrow, List.set, Value.cells, ↓popG_eq, ↓pop.eq_1, ↓List.getElem?_map, ↓List.getElem?_cons_zero, ↓List.getElem?_cons_succ, Value.oneCell', Nat.reduceAdd, Nat.reduceMul, Nat.reduceSub, Nat.reduceLeDiff, Nat.reduceEqDiff, ↓reduceIte, ne_eq, reduceCtorEq, forall_const, exists_and_left, exists_eq_left', eq_self, Nat.reduceLT, Int.reduceLT, Int.reduceLE, Int.reduceToNat, Int.reduceAdd, Int.reduceSub, Int.reduceNeg, hnm, Tryd.tf0, Tryd.tf1, Tryd.tf3, Tryd.tf4, Tryd.tf9, Tryd.tf22, Tryd.tf23, Tryd.tf28, Tryd.tf36, Tryd.tf42, Tryd.tf45, Tryd.teq45, Tryd.teq94, Tryd.teq104, Tryd.teq113, Tryd.teq114, Tryd.call9, Tryd.call10, Tryd.call11, Tryd.call12, Tryd.call15, Tryd.call22, hgw, hgx, ← hu]); repeat (refine And.intro (by omega) ?_))
    | ((with_reducible first | apply WL_nil | apply W_label | apply W_skip | apply W_exit | apply W_ret | apply popsD_done); try simp only [seqK, blockK, scopeK, ↓reduceIte, Nat.reduceEqDiff])
    | with_reducible exact popsD_stop
    | (with_reducible apply pguard_intro <;> (intro hc; (try simp only [hcb, reduceCtorEq, forall_const, ne_eq] at hc); first | (exfalso; omega) | (exfalso; exact hc trivial) | refine Ev_in ?_))
    | (with_reducible apply W_cond_k; intro _ _ ea eb; (simp only [condK, cob, opnd, constPV, Nat.reduceEqDiff, Nat.reduceLT, ↓reduceIte, hcb, reduceCtorEq, forall_const, ne_eq]); subst ea eb; first | (refine ⟨fun hc => ?_, fun hc => ?_⟩ <;> first | (exfalso; omega) | (exfalso; exact hc trivial) | skip) | skip)
    | (with_reducible apply hnx; clear hnx nx)
    | (with_reducible refine And.intro (by omega) ?_)
    | (with_reducible refine And.intro ?_ ?_)
    | (clear hnx nx; with_reducible apply hnx; clear hnx nx)
    | (clear hnx nx; clear hnx nx; with_reducible apply hnx; clear hnx nx)
    | (clear hnx nx; clear hnx nx; clear hnx nx; with_reducible apply hnx; clear hnx nx))
      all_goals first | exact absurd trivial hc | contradiction | exact fun h => False.elim h | (exfalso; omega) | (exfalso; have hc := of_decide_eq_false hc; omega) | (exfalso; simp only [Bool.not_false, Bool.not_true, decide_eq_true_eq, decide_eq_false_iff_not] at *; omega) | skip
      refine W_loop_k (fun z τ => ∃ (j : Nat), j ≤ a.length ∧ z = a.length - j ∧ τ = ⟨fr 126 [(16, pn j), (15, pint .i64 u.length), (14, pn i), (13, pint .i64 T.length), (9, wP w), (8, pstr s), (7, ltsP a)], []⟩) a.length
        ⟨fr 126 [(16, pn 0), (15, pint .i64 u.length), (14, pn i), (13, pint .i64 T.length), (9, wP w), (8, pstr s), (7, ltsP a)], []⟩ (by
        exact Wk_fr (by simp only [wkb, Nat.reduceEqDiff, Nat.reduceLT, ↓reduceIte, pn]) (Sub_nil _)) ⟨0, by omega, by omega, rfl⟩ ?_
      rintro z τ ⟨j, hj, rfl, rfl⟩ lp2 hlp2
      by_cases hjl : j < a.length
      · have hgj : a[j]? = some a[j] := List.getElem?_eq_getElem hjl
        have htj := htx _ (List.getElem_mem hjl)
        have h3j := h3 j hjl
        have hpre : (a[j].text.isPrefixOf (s.drop T.length) = true) ↔ (T.length + a[j].text.length ≤ s.length ∧ List.drop T.length (List.take (T.length + a[j].text.length) s) = a[j].text) := by
          rw [List.isPrefixOf_iff_prefix, List.prefix_iff_eq_take, List.drop_take, Nat.add_sub_cancel_left]
          constructor
          · intro h
            refine ⟨?_, h.symm⟩
            have := congrArg List.length h
            rw [List.length_take, List.length_drop] at this
            omega
          · rintro ⟨_, h⟩
            exact h.symm
        rw [hpre] at h3j
        have hk0 : ((T.length : Int) + (a[j].text.length : Int)).toNat = T.length + a[j].text.length := by omega
        repeat' (first
    | (with_reducible apply W_seq_k; intro nx hnx)
    | (with_reducible first | apply W_block | apply W_scope)
    | (with_reducible refine W_prune 262087 ?_; simp only [prb, Nat.reducePow, Nat.reduceDiv, Nat.reduceMod, Nat.reduceBEq]; first | (with_reducible apply W_region_l) | with_reducible refine W_region_draw (id := 22) 1 (.op 0 true (.op 1 true (.op 2 true (.op 3 true (.op 4 true (.op 5 true (.op 6 true (.op 7 true (.op 8 true (.op 9 true (.op 10 true (.op 11 true (.op 12 true (.op 13 true (.op 14 true (.op 15 true (.op 16 true (.op 17 true (.op 18 true (.op 19 true (.op 20 true (.op 21 true (.op 22 true (.op 23 true (.op 24 true (.done)))))))))))))))))))))))))) (by kernel_rfl) ?_)
    | ((first | (with_reducible apply WL_op; intro nx hnx) | with_reducible refine Ev_out ?_ | (with_reducible apply popsD_op; intro nx hnx) | (with_reducible refine popsD_alt ?_ ?_; intro nx hnx)); try (simp (maxSteps := 2000000) (disch := omega) only [evb, evd, pbuiltin, constPV, pnck, seqK, blockK, scopeK, pbin, pun, ppick, plen, piaddr, pindex, pfield, pslice, pbound, pconv, pelems, pextract, pmm, PV.mem?, PV.one, PV.cells, pageq, peqs, peq1, pmakes, pstore, pbytes, pmark, pusd, pust, psrc, pkey, pnile, pcap, pgrow, List.set, Value.cells, ↓popG_eq, ↓pop.eq_1, ↓List.getElem?_map, ↓List.getElem?_cons_zero, ↓List.getElem?_cons_succ, Value.oneCell', Nat.reduceAdd, Nat.reduceMul, Nat.reduceSub, Nat.reduceLeDiff, Nat.reduceEqDiff, ↓reduceIte, ne_eq, reduceCtorEq, forall_const, exists_and_left, exists_eq_left', eq_self, Nat.reduceLT, Int.reduceLT, Int.reduceLE, Int.reduceToNat, Int.reduceAdd, Int.reduceSub, Int.reduceNeg, hnm, Tryd.tf0, Tryd.tf1, Tryd.tf3, Tryd.tf4, Tryd.tf9, Tryd.tf22, Tryd.tf23, Tryd.tf28, Tryd.tf36, Tryd.tf42, Tryd.tf45, Tryd.teq45, Tryd.teq94, Tryd.teq104, Tryd.teq113, Tryd.teq114, Tryd.call9, Tryd.call10, Tryd.call11, Tryd.call12, Tryd.call15, Tryd.call22, hgj, hk0]); repeat (refine And.intro (by omega) ?_))
    | ((with_reducible first | apply WL_nil | apply W_label | apply W_skip | apply W_exit | apply W_ret | apply popsD_done); try simp only [seqK, blockK, scopeK, ↓reduceIte, Nat.reduceEqDiff])
    | with_reducible exact popsD_stop
    | (with_reducible apply pguard_intro <;> (intro hc; (try simp only [hcb, reduceCtorEq, forall_const, ne_eq] at hc); first | (exfalso; omega) | (exfalso; exact hc trivial) | refine Ev_in ?_))
    | (with_reducible apply W_cond_k; intro _ _ ea eb; (simp only [condK, cob, opnd, constPV, Nat.reduceEqDiff, Nat.reduceLT, ↓reduceIte, hcb, reduceCtorEq, forall_const, ne_eq]); subst ea eb; first | (refine ⟨fun hc => ?_, fun hc => ?_⟩ <;> first | (exfalso; omega) | (exfalso; exact hc trivial) | skip) | skip)
    | (with_reducible apply hnx; clear hnx nx)
    | (with_reducible refine And.intro (by omega) ?_)
    | (with_reducible refine And.intro ?_ ?_)
    | (clear hnx nx; with_reducible apply hnx; clear hnx nx)
    | (clear hnx nx; clear hnx nx; with_reducible apply hnx; clear hnx nx)
    | (clear hnx nx; clear hnx nx; clear hnx nx; with_reducible apply hnx; clear hnx nx))
        all_goals first | exact absurd trivial hc | contradiction | exact fun h => False.elim h | (exfalso; omega) | (exfalso; have hc := of_decide_eq_false hc; omega) | (exfalso; simp only [Bool.not_false, Bool.not_true, decide_eq_true_eq, decide_eq_false_iff_not] at *; omega) | skip
        all_goals first
          | (exfalso
             refine h3j ?_ ⟨?_, ?_⟩
             · omega
             · omega
             · assumption
             done)
          | (refine hlp2 _ (a.length - (j + 1)) ⟨fr 126 [(16, pn (j + 1)), (15, pint .i64 u.length), (14, pn i), (13, pint .i64 T.length), (9, wP w), (8, pstr s), (7, ltsP a)], []⟩ (by omega) ?_ ⟨j + 1, by omega, rfl, rfl⟩
             exact Wk_fr (by simp only [wkb, Nat.reduceEqDiff, Nat.reduceLT, ↓reduceIte, pn]) (Sub_nil _))
      · have hj2 : j = a.length := by omega
        subst hj2
        repeat' (first
    | (with_reducible apply W_seq_k; intro nx hnx)
    | (with_reducible first | apply W_block | apply W_scope)
    | (with_reducible refine W_prune 262087 ?_; simp only [prb, Nat.reducePow, Nat.reduceDiv, Nat.reduceMod, Nat.reduceBEq]; first | (with_reducible apply W_region_l) | with_reducible refine W_region_draw (id := 22) 1 (.op 0 true (.op 1 true (.op 2 true (.op 3 true (.op 4 true (.op 5 true (.op 6 true (.op 7 true (.op 8 true (.op 9 true (.op 10 true (.op 11 true (.op 12 true (.op 13 true (.op 14 true (.op 15 true (.op 16 true (.op 17 true (.op 18 true (.op 19 true (.op 20 true (.op 21 true (.op 22 true (.op 23 true (.op 24 true (.done)))))))))))))))))))))))))) (by kernel_rfl) ?_)
    | ((first | (with_reducible apply WL_op; intro nx hnx) | with_reducible refine Ev_out ?_ | (with_reducible apply popsD_op; intro nx hnx) | (with_reducible refine popsD_alt ?_ ?_; intro nx hnx)); try (simp (maxSteps := 2000000) (disch := omega) only [evb, evd, pbuiltin, constPV, pnck, seqK, blockK, scopeK, pbin, pun, ppick, plen, piaddr, pindex, pfield, pslice, pbound, pconv, pelems, pextract, pmm, PV.mem?, PV.one, PV.cells, pageq, peqs, peq1, pmakes, pstore, pbytes, pmark, pusd, pust, psrc, pkey, pnile, pcap, pgrow, List.set, Value.cells, ↓popG_eq, ↓pop.eq_1, ↓List.getElem?_map, ↓List.getElem?_cons_zero, ↓List.getElem?_cons_succ, Value.oneCell', Nat.reduceAdd, Nat.reduceMul, Nat.reduceSub, Nat.reduceLeDiff, Nat.reduceEqDiff, ↓reduceIte, ne_eq, reduceCtorEq, forall_const, exists_and_left, exists_eq_left', eq_self, Nat.reduceLT, Int.reduceLT, Int.reduceLE, Int.reduceToNat, Int.reduceAdd, Int.reduceSub, Int.reduceNeg, hnm, Tryd.tf0, Tryd.tf1, Tryd.tf3, Tryd.tf4, Tryd.tf9, Tryd.tf22, Tryd.tf23, Tryd.tf28, Tryd.tf36, Tryd.tf42, Tryd.tf45, Tryd.teq45, Tryd.teq94, Tryd.teq104, Tryd.teq113, Tryd.teq114, Tryd.call9, Tryd.call10, Tryd.call11, Tryd.call12, Tryd.call15, Tryd.call22]); repeat (refine And.intro (by omega) ?_))
    | ((with_reducible first | apply WL_nil | apply W_label | apply W_skip | apply W_exit | apply W_ret | apply popsD_done); try simp only [seqK, blockK, scopeK, ↓reduceIte, Nat.reduceEqDiff])
    | with_reducible exact popsD_stop
    | (with_reducible apply pguard_intro <;> (intro hc; (try simp only [hcb, reduceCtorEq, forall_const, ne_eq] at hc); first | (exfalso; omega) | (exfalso; exact hc trivial) | refine Ev_in ?_))
    | (with_reducible apply W_cond_k; intro _ _ ea eb; (simp only [condK, cob, opnd, constPV, Nat.reduceEqDiff, Nat.reduceLT, ↓reduceIte, hcb, reduceCtorEq, forall_const, ne_eq]); subst ea eb; first | (refine ⟨fun hc => ?_, fun hc => ?_⟩ <;> first | (exfalso; omega) | (exfalso; exact hc trivial) | skip) | skip)
    | (with_reducible apply hnx; clear hnx nx)
    | (with_reducible refine And.intro (by omega) ?_)
    | (with_reducible refine And.intro ?_ ?_)
    | (clear hnx nx; with_reducible apply hnx; clear hnx nx)
    | (clear hnx nx; clear hnx nx; with_reducible apply hnx; clear hnx nx)
    | (clear hnx nx; clear hnx nx; clear hnx nx; with_reducible apply hnx; clear hnx nx))
        all_goals first | exact absurd trivial hc | contradiction | exact fun h => False.elim h | (exfalso; omega) | (exfalso; have hc := of_decide_eq_false hc; omega) | (exfalso; simp only [Bool.not_false, Bool.not_true, decide_eq_true_eq, decide_eq_false_iff_not] at *; omega) | skip
        refine hlp _ (w.length + 1 - (i + 1)) ⟨fr 126 [(14, pn (i + 1)), (13, pint .i64 (textF a (w.take (i + 1))).length), (9, wP w), (8, pstr s), (7, ltsP a)], []⟩ (by omega) ?_ ⟨i + 1, by omega, rfl, rfl⟩
        rw [hsn]
        exact Wk_fr (by simp only [wkb, Nat.reduceEqDiff, Nat.reduceLT, ↓reduceIte, pn]) (Sub_nil _)
    · by_cases hi2 : i = w.length
      · subst hi2
        obtain ⟨q1, q2⟩ := hsat (Nat.le_refl _)
        rw [List.drop_length] at q1
        have hsn : (textF a (w.take (w.length + 1))).length = (textF a (w.take w.length)).length + 0 := by
          rw [List.take_of_length_le (by omega), List.take_length]
          rfl
        generalize textF a (w.take w.length) = T at *
        have h3 : ∀ j (hj : j < a.length), 0 < a[j].text.length → ¬ a[j].text.isPrefixOf (s.drop T.length) = true := by
          intro j hj h0 hp
          rcases q1 with q1 | q1
          · rw [q1, List.isPrefixOf_iff_prefix] at hp
            have := hp.length_le
            simp at this
            rw [this] at h0
            simp at h0
          · exact q1 j hj hp
        repeat' (first
    | (with_reducible apply W_seq_k; intro nx hnx)
    | (with_reducible first | apply W_block | apply W_scope)
    | (with_reducible refine W_prune 262087 ?_; simp only [prb, Nat.reducePow, Nat.reduceDiv, Nat.reduceMod, Nat.reduceBEq]; first | (with_reducible apply W_region_l) | with_reducible refine W_region_draw (id := 22) 1 (.op 0 true (.op 1 true (.op 2 true (.op 3 true (.op 4 true (.op 5 true (.op 6 true (.op 7 true (.op 8 true (.op 9 true (.op 10 true (.op 11 true (.op 12 true (.op 13 true (.op 14 true (.op 15 true (.op 16 true (.op 17 true (.op 18 true (.op 19 true (.op 20 true (.op 21 true (.op 22 true (.op 23 true (.op 24 true (.done)))))))))))))))))))))))))) (by kernel_rfl) ?_)
    | ((first | (with_reducible apply WL_op; intro nx hnx) | with_reducible refine Ev_out ?_ | (with_reducible apply popsD_op; intro nx hnx) | (with_reducible refine popsD_alt ?_ ?_; intro nx hnx)); try (simp (maxSteps := 2000000) (disch := omega) only [evb, evd, pbuiltin, constPV, pnck, seqK, blockK, scopeK, pbin, pun, ppick, plen, piaddr, pindex, pfield, pslice, pbound, pconv, pelems, pextract, pmm, PV.mem?, PV.one, PV.cells, pageq, peqs, peq1, pmakes, pstore, pbytes, pmark, pusd, pust, psrc, pkey, pnile, pcap, pgrow, List.set, Value.cells, ↓popG_eq, ↓pop.eq_1, ↓List.getElem?_map, ↓List.getElem?_cons_zero, ↓List.getElem?_cons_succ, Value.oneCell', Nat.reduceAdd, Nat.reduceMul, Nat.reduceSub, Nat.reduceLeDiff, Nat.reduceEqDiff, ↓reduceIte, ne_eq, reduceCtorEq, forall_const, exists_and_left, exists_eq_left', eq_self, Nat.reduceLT, Int.reduceLT, Int.reduceLE, Int.reduceToNat, Int.reduceAdd, Int.reduceSub, Int.reduceNeg, hnm, Tryd.tf0, Tryd.tf1, Tryd.tf3, Tryd.tf4, Tryd.tf9, Tryd.tf22, Tryd.tf23, Tryd.tf28, Tryd.tf36, Tryd.tf42, Tryd.tf45, Tryd.teq45, Tryd.teq94, Tryd.teq104, Tryd.teq113, Tryd.teq114, Tryd.call9, Tryd.call10, Tryd.call11, Tryd.call12, Tryd.call15, Tryd.call22]); repeat (refine And.intro (by omega) ?_))
    | ((with_reducible first | apply WL_nil | apply W_label | apply W_skip | apply W_exit | apply W_ret | apply popsD_done); try simp only [seqK, blockK, scopeK, ↓reduceIte, Nat.reduceEqDiff])
    | with_reducible exact popsD_stop
    | (with_reducible apply pguard_intro <;> (intro hc; (try simp only [hcb, reduceCtorEq, forall_const, ne_eq] at hc); first | (exfalso; omega) | (exfalso; exact hc trivial) | refine Ev_in ?_))
    | (with_reducible apply W_cond_k; intro _ _ ea eb; (simp only [condK, cob, opnd, constPV, Nat.reduceEqDiff, Nat.reduceLT, ↓reduceIte, hcb, reduceCtorEq, forall_const, ne_eq]); subst ea eb; first | (refine ⟨fun hc => ?_, fun hc => ?_⟩ <;> first | (exfalso; omega) | (exfalso; exact hc trivial) | skip) | skip)
    | (with_reducible apply hnx; clear hnx nx)
    | (with_reducible refine And.intro (by omega) ?_)
    | (with_reducible refine And.intro ?_ ?_)
    | (clear hnx nx; with_reducible apply hnx; clear hnx nx)
    | (clear hnx nx; clear hnx nx; with_reducible apply hnx; clear hnx nx)
    | (clear hnx nx; clear hnx nx; clear hnx nx; with_reducible apply hnx; clear hnx nx))
        all_goals first | exact absurd trivial hc | contradiction | exact fun h => False.elim h | (exfalso; omega) | (exfalso; have hc := of_decide_eq_false hc; omega) | (exfalso; simp only [Bool.not_false, Bool.not_true, decide_eq_true_eq, decide_eq_false_iff_not] at *; omega) | skip
        refine W_loop_k (fun z τ => ∃ (j : Nat), j ≤ a.length ∧ z = a.length - j ∧ τ = ⟨fr 126 [(16, pn j), (15, pint .i64 (0 : Nat)), (14, pn w.length), (13, pint .i64 T.length), (9, wP w), (8, pstr s), (7, ltsP a)], []⟩) a.length
          ⟨fr 126 [(16, pn 0), (15, pint .i64 (0 : Nat)), (14, pn w.length), (13, pint .i64 T.length), (9, wP w), (8, pstr s), (7, ltsP a)], []⟩ (by
          exact Wk_fr (by simp only [wkb, Nat.reduceEqDiff, Nat.reduceLT, ↓reduceIte, pn]) (Sub_nil _)) ⟨0, by omega, by omega, rfl⟩ ?_
        rintro z τ ⟨j, hj, rfl, rfl⟩ lp2 hlp2
        by_cases hjl : j < a.length
        · have hgj : a[j]? = some a[j] := List.getElem?_eq_getElem hjl
          have htj := htx _ (List.getElem_mem hjl)
          have h3j := h3 j hjl
          have hpre : (a[j].text.isPrefixOf (s.drop T.length) = true) ↔ (T.length + a[j].text.length ≤ s.length ∧ List.drop T.length (List.take (T.length + a[j].text.length) s) = a[j].text) := by
            rw [List.isPrefixOf_iff_prefix, List.prefix_iff_eq_take, List.drop_take, Nat.add_sub_cancel_left]
            constructor
            · intro h
              refine ⟨?_, h.symm⟩
              have := congrArg List.length h
              rw [List.length_take, List.length_drop] at this
              omega
            · rintro ⟨_, h⟩
              exact h.symm
          rw [hpre] at h3j
          have hk0 : ((T.length : Int) + (a[j].text.length : Int)).toNat = T.length + a[j].text.length := by omega
          repeat' (first
    | (with_reducible apply W_seq_k; intro nx hnx)
    | (with_reducible first | apply W_block | apply W_scope)
    | (with_reducible refine W_prune 262087 ?_; simp only [prb, Nat.reducePow, Nat.reduceDiv, Nat.reduceMod, Nat.reduceBEq]; first | (with_reducible apply W_region_l) | with_reducible refine W_region_draw (id := 22) 1 (.op 0 true (.op 1 true (.op 2 true (.op 3 true (.op 4 true (.op 5 true (.op 6 true (.op 7 true (.op 8 true (.op 9 true (.op 10 true (.op 11 true (.op 12 true (.op 13 true (.op 14 true (.op 15 true (.op 16 true (.op 17 true (.op 18 true (.op 19 true (.op 20 true (.op 21 true (.op 22 true (.op 23 true (.op 24 true (.done)))))))))))))))))))))))))) (by kernel_rfl) ?_)
    | ((first | (with_reducible apply WL_op; intro nx hnx) | with_reducible refine Ev_out ?_ | (with_reducible apply popsD_op; intro nx hnx) | (with_reducible refine popsD_alt ?_ ?_; intro nx hnx)); try (simp (maxSteps := 2000000) (disch := omega) only [evb, evd, pbuiltin, constPV, pnck, seqK, blockK, scopeK, pbin, pun, ppick, plen, piaddr, pindex, pfield, pslice, pbound, pconv, pelems, pextract, pmm, PV.mem?, PV.one, PV.cells, pageq, peqs, peq1, pmakes, pstore, pbytes, pmark, pusd, pust, psrc, pkey, pnile, pcap, pgrow, List.set, Value.cells, ↓popG_eq, ↓pop.eq_1, ↓List.getElem?_map, ↓List.getElem?_cons_zero, ↓List.getElem?_cons_succ, Value.oneCell', Nat.reduceAdd, Nat.reduceMul, Nat.reduceSub, Nat.reduceLeDiff, Nat.reduceEqDiff, ↓reduceIte, ne_eq, reduceCtorEq, forall_const, exists_and_left, exists_eq_left', eq_self, Nat.reduceLT, Int.reduceLT, Int.reduceLE, Int.reduceToNat, Int.reduceAdd, Int.reduceSub, Int.reduceNeg, hnm, Tryd.tf0, Tryd.tf1, Tryd.tf3, Tryd.tf4, Tryd.tf9, Tryd.tf22, Tryd.tf23, Tryd.tf28, Tryd.tf36, Tryd.tf42, Tryd.tf45, Tryd.teq45, Tryd.teq94, Tryd.teq104, Tryd.teq113, Tryd.teq114, Tryd.call9, Tryd.call10, Tryd.call11, Tryd.call12, Tryd.call15, Tryd.call22, hgj, hk0]); repeat (refine And.intro (by omega) ?_))
    | ((with_reducible first | apply WL_nil | apply W_label | apply W_skip | apply W_exit | apply W_ret | apply popsD_done); try simp only [seqK, blockK, scopeK, ↓reduceIte, Nat.reduceEqDiff])
    | with_reducible exact popsD_stop
    | (with_reducible apply pguard_intro <;> (intro hc; (try simp only [hcb, reduceCtorEq, forall_const, ne_eq] at hc); first | (exfalso; omega) | (exfalso; exact hc trivial) | refine Ev_in ?_))
    | (with_reducible apply W_cond_k; intro _ _ ea eb; (simp only [condK, cob, opnd, constPV, Nat.reduceEqDiff, Nat.reduceLT, ↓reduceIte, hcb, reduceCtorEq, forall_const, ne_eq]); subst ea eb; first | (refine ⟨fun hc => ?_, fun hc => ?_⟩ <;> first | (exfalso; omega) | (exfalso; exact hc trivial) | skip) | skip)
    | (with_reducible apply hnx; clear hnx nx)
    | (with_reducible refine And.intro (by omega) ?_)
    | (with_reducible refine And.intro ?_ ?_)
    | (clear hnx nx; with_reducible apply hnx; clear hnx nx)
    | (clear hnx nx; clear hnx nx; with_reducible apply hnx; clear hnx nx)
    | (clear hnx nx; clear hnx nx; clear hnx nx; with_reducible apply hnx; clear hnx nx))
          all_goals first | exact absurd trivial hc | contradiction | exact fun h => False.elim h | (exfalso; omega) | (exfalso; have hc := of_decide_eq_false hc; omega) | (exfalso; simp only [Bool.not_false, Bool.not_true, decide_eq_true_eq, decide_eq_false_iff_not] at *; omega) | skip
          all_goals first
            | (exfalso
               refine h3j ?_ ⟨?_, ?_⟩
               · omega
               · omega
               · assumption
               done)
            | (refine hlp2 _ (a.length - (j + 1)) ⟨fr 126 [(16, pn (j + 1)), (15, pint .i64 (0 : Nat)), (14, pn w.length), (13, pint .i64 T.length), (9, wP w), (8, pstr s), (7, ltsP a)], []⟩ (by omega) ?_ ⟨j + 1, by omega, rfl, rfl⟩
               exact Wk_fr (by simp only [wkb, Nat.reduceEqDiff, Nat.reduceLT, ↓reduceIte, pn]) (Sub_nil _))
        · have hj2 : j = a.length := by omega
          subst hj2
          repeat' (first
    | (with_reducible apply W_seq_k; intro nx hnx)
    | (with_reducible first | apply W_block | apply W_scope)
    | (with_reducible refine W_prune 262087 ?_; simp only [prb, Nat.reducePow, Nat.reduceDiv, Nat.reduceMod, Nat.reduceBEq]; first | (with_reducible apply W_region_l) | with_reducible refine W_region_draw (id := 22) 1 (.op 0 true (.op 1 true (.op 2 true (.op 3 true (.op 4 true (.op 5 true (.op 6 true (.op 7 true (.op 8 true (.op 9 true (.op 10 true (.op 11 true (.op 12 true (.op 13 true (.op 14 true (.op 15 true (.op 16 true (.op 17 true (.op 18 true (.op 19 true (.op 20 true (.op 21 true (.op 22 true (.op 23 true (.op 24 true (.done)))))))))))))))))))))))))) (by kernel_rfl) ?_)
    | ((first | (with_reducible apply WL_op; intro nx hnx) | with_reducible refine Ev_out ?_ | (with_reducible apply popsD_op; intro nx hnx) | (with_reducible refine popsD_alt ?_ ?_; intro nx hnx)); try (simp (maxSteps := 2000000) (disch := omega) only [evb, evd, pbuiltin, constPV, pnck, seqK, blockK, scopeK, pbin, pun, ppick, plen, piaddr, pindex, pfield, pslice, pbound, pconv, pelems, pextract, pmm, PV.mem?, PV.one, PV.cells, pageq, peqs, peq1, pmakes, pstore, pbytes, pmark, pusd, pust, psrc, pkey, pnile, pcap, pgrow, List.set, Value.cells, ↓popG_eq, ↓pop.eq_1, ↓List.getElem?_map, ↓List.getElem?_cons_zero, ↓List.getElem?_cons_succ, Value.oneCell', Nat.reduceAdd, Nat.reduceMul, Nat.reduceSub, Nat.reduceLeDiff, Nat.reduceEqDiff, ↓reduceIte, ne_eq, reduceCtorEq, forall_const, exists_and_left, exists_eq_left', eq_self, Nat.reduceLT, Int.reduceLT, Int.reduceLE, Int.reduceToNat, Int.reduceAdd, Int.reduceSub, Int.reduceNeg, hnm, Tryd.tf0, Tryd.tf1, Tryd.tf3, Tryd.tf4, Tryd.tf9, Tryd.tf22, Tryd.tf23, Tryd.tf28, Tryd.tf36, Tryd.tf42, Tryd.tf45, Tryd.teq45, Tryd.teq94, Tryd.teq104, Tryd.teq113, Tryd.teq114, Tryd.call9, Tryd.call10, Tryd.call11, Tryd.call12, Tryd.call15, Tryd.call22]); repeat (refine And.intro (by omega) ?_))
    | ((with_reducible first | apply WL_nil | apply W_label | apply W_skip | apply W_exit | apply W_ret | apply popsD_done); try simp only [seqK, blockK, scopeK, ↓reduceIte, Nat.reduceEqDiff])
    | with_reducible exact popsD_stop
    | (with_reducible apply pguard_intro <;> (intro hc; (try simp only [hcb, reduceCtorEq, forall_const, ne_eq] at hc); first | (exfalso; omega) | (exfalso; exact hc trivial) | refine Ev_in ?_))
    | (with_reducible apply W_cond_k; intro _ _ ea eb; (simp only [condK, cob, opnd, constPV, Nat.reduceEqDiff, Nat.reduceLT, ↓reduceIte, hcb, reduceCtorEq, forall_const, ne_eq]); subst ea eb; first | (refine ⟨fun hc => ?_, fun hc => ?_⟩ <;> first | (exfalso; omega) | (exfalso; exact hc trivial) | skip) | skip)
    | (with_reducible apply hnx; clear hnx nx)
    | (with_reducible refine And.intro (by omega) ?_)
    | (with_reducible refine And.intro ?_ ?_)
    | (clear hnx nx; with_reducible apply hnx; clear hnx nx)
    | (clear hnx nx; clear hnx nx; with_reducible apply hnx; clear hnx nx)
    | (clear hnx nx; clear hnx nx; clear hnx nx; with_reducible apply hnx; clear hnx nx))
          all_goals first | exact absurd trivial hc | contradiction | exact fun h => False.elim h | (exfalso; omega) | (exfalso; have hc := of_decide_eq_false hc; omega) | (exfalso; simp only [Bool.not_false, Bool.not_true, decide_eq_true_eq, decide_eq_false_iff_not] at *; omega) | skip
          refine hlp _ (w.length + 1 - (w.length + 1)) ⟨fr 126 [(14, pn (w.length + 1)), (13, pint .i64 (textF a (w.take (w.length + 1))).length), (9, wP w), (8, pstr s), (7, ltsP a)], []⟩ (by omega) ?_ ⟨w.length + 1, by omega, rfl, rfl⟩
          rw [hsn]
          exact Wk_fr (by simp only [wkb, Nat.reduceEqDiff, Nat.reduceLT, ↓reduceIte, pn]) (Sub_nil _)
      · have hi3 : i = w.length + 1 := by omega
        subst hi3
        repeat' (first
    | (with_reducible apply W_seq_k; intro nx hnx)
    | (with_reducible first | apply W_block | apply W_scope)
    | (with_reducible refine W_prune 262087 ?_; simp only [prb, Nat.reducePow, Nat.reduceDiv, Nat.reduceMod, Nat.reduceBEq]; first | (with_reducible apply W_region_l) | with_reducible refine W_region_draw (id := 22) 1 (.op 0 true (.op 1 true (.op 2 true (.op 3 true (.op 4 true (.op 5 true (.op 6 true (.op 7 true (.op 8 true (.op 9 true (.op 10 true (.op 11 true (.op 12 true (.op 13 true (.op 14 true (.op 15 true (.op 16 true (.op 17 true (.op 18 true (.op 19 true (.op 20 true (.op 21 true (.op 22 true (.op 23 true (.op 24 true (.done)))))))))))))))))))))))))) (by kernel_rfl) ?_)
    | ((first | (with_reducible apply WL_op; intro nx hnx) | with_reducible refine Ev_out ?_ | (with_reducible apply popsD_op; intro nx hnx) | (with_reducible refine popsD_alt ?_ ?_; intro nx hnx)); try (simp (maxSteps := 2000000) (disch := omega) only [evb, evd, pbuiltin, constPV, pnck, seqK, blockK, scopeK, pbin, pun, ppick, plen, piaddr, pindex, pfield, pslice, pbound, pconv, pelems, pextract, pmm, PV.mem?, PV.one, PV.cells, pageq, peqs, peq1, pmakes, pstore, pbytes, pmark, pusd, pust, psrc, pkey, pnile, pcap, pgrow, List.set, Value.cells, ↓popG_eq, ↓pop.eq_1, ↓List.getElem?_map, ↓List.getElem?_cons_zero, ↓List.getElem?_cons_succ, Value.oneCell', Nat.reduceAdd, Nat.reduceMul, Nat.reduceSub, Nat.reduceLeDiff, Nat.reduceEqDiff, ↓reduceIte, ne_eq, reduceCtorEq, forall_const, exists_and_left, exists_eq_left', eq_self, Nat.reduceLT, Int.reduceLT, Int.reduceLE, Int.reduceToNat, Int.reduceAdd, Int.reduceSub, Int.reduceNeg, hnm, Tryd.tf0, Tryd.tf1, Tryd.tf3, Tryd.tf4, Tryd.tf9, Tryd.tf22, Tryd.tf23, Tryd.tf28, Tryd.tf36, Tryd.tf42, Tryd.tf45, Tryd.teq45, Tryd.teq94, Tryd.teq104, Tryd.teq113, Tryd.teq114, Tryd.call9, Tryd.call10, Tryd.call11, Tryd.call12, Tryd.call15, Tryd.call22]); repeat (refine And.intro (by omega) ?_))
    | ((with_reducible first | apply WL_nil | apply W_label | apply W_skip | apply W_exit | apply W_ret | apply popsD_done); try simp only [seqK, blockK, scopeK, ↓reduceIte, Nat.reduceEqDiff])
    | with_reducible exact popsD_stop
    | (with_reducible apply pguard_intro <;> (intro hc; (try simp only [hcb, reduceCtorEq, forall_const, ne_eq] at hc); first | (exfalso; omega) | (exfalso; exact hc trivial) | refine Ev_in ?_))
    | (with_reducible apply W_cond_k; intro _ _ ea eb; (simp only [condK, cob, opnd, constPV, Nat.reduceEqDiff, Nat.reduceLT, ↓reduceIte, hcb, reduceCtorEq, forall_const, ne_eq]); subst ea eb; first | (refine ⟨fun hc => ?_, fun hc => ?_⟩ <;> first | (exfalso; omega) | (exfalso; exact hc trivial) | skip) | skip)
    | (with_reducible apply hnx; clear hnx nx)
    | (with_reducible refine And.intro (by omega) ?_)
    | (with_reducible refine And.intro ?_ ?_)
    | (with_reducible refine pcall_k (c9) ?_; rintro _ _ ⟨rfl, rfl⟩ -; refine Ev_in ?_)
    | (clear hnx nx; with_reducible apply hnx; clear hnx nx)
    | (clear hnx nx; clear hnx nx; with_reducible apply hnx; clear hnx nx)
    | (clear hnx nx; clear hnx nx; clear hnx nx; with_reducible apply hnx; clear hnx nx))
        all_goals first | exact absurd trivial hc | contradiction | exact fun h => False.elim h | (exfalso; omega) | (exfalso; have hc := of_decide_eq_false hc; omega) | (exfalso; simp only [Bool.not_false, Bool.not_true, decide_eq_true_eq, decide_eq_false_iff_not] at *; omega) | skip
        (refine hfin _ _ (Fin_ret1 rfl (Sub_nil _) ?_); simp only [List.getD_cons_zero, List.getD_cons_succ, fr_getD_cons, fr_getD_nil, Nat.reduceEqDiff, Nat.reduceLT, ↓reduceIte]; first | trivial | exact ⟨rfl, by trivial⟩ | (simp; done) | (simp; omega))
  · rw [if_neg he] at d1
    (refine PCalls_f Tryd.func5 rfl Tryd.ntmps5 Tryd.results5 (by simp) fun fin hfin => ?_; have hnm : True := trivial; simp (maxSteps := 2000000) (disch := omega) only [evb, evd, pbuiltin, constPV, pnck, seqK, blockK, scopeK, pbin, pun, ppick, plen, piaddr, pindex, pfield, pslice, pbound, pconv, pelems, pextract, pmm, PV.mem?, PV.one, PV.cells, pageq, peqs, peq1, pmakes, pstore, pbytes, pmark, pusd, pust, psrc, pkey, pnile, pcap, pgrow, List.set, Value.cells, ↓popG_eq, ↓pop.eq_1, ↓List.getElem?_map, ↓List.getElem?_cons_zero, ↓List.getElem?_cons_succ, Value.oneCell', Nat.reduceAdd, Nat.reduceMul, Nat.reduceSub, Nat.reduceLeDiff, Nat.reduceEqDiff, ↓reduceIte, ne_eq, reduceCtorEq, forall_const, exists_and_left, exists_eq_left', eq_self, Nat.reduceLT, Int.reduceLT, Int.reduceLE, Int.reduceToNat, Int.reduceAdd, Int.reduceSub, Int.reduceNeg, hnm, Tryd.tf0, Tryd.tf1, Tryd.tf3, Tryd.tf4, Tryd.tf9, Tryd.tf22, Tryd.tf23, Tryd.tf28, Tryd.tf36, Tryd.tf42, Tryd.tf45, Tryd.teq45, Tryd.teq94, Tryd.teq104, Tryd.teq113, Tryd.teq114, Tryd.call9, Tryd.call10, Tryd.call11, Tryd.call12, Tryd.call15, Tryd.call22])
    repeat' (first
    | (with_reducible apply W_seq_k; intro nx hnx)
    | (with_reducible first | apply W_block | apply W_scope)
    | (with_reducible refine W_prune 262087 ?_; simp only [prb, Nat.reducePow, Nat.reduceDiv, Nat.reduceMod, Nat.reduceBEq]; first | (with_reducible apply W_region_l) | with_reducible refine W_region_draw (id := 22) 1 (.op 0 true (.op 1 true (.op 2 true (.op 3 true (.op 4 true (.op 5 true (.op 6 true (.op 7 true (.op 8 true (.op 9 true (.op 10 true (.op 11 true (.op 12 true (.op 13 true (.op 14 true (.op 15 true (.op 16 true (.op 17 true (.op 18 true (.op 19 true (.op 20 true (.op 21 true (.op 22 true (.op 23 true (.op 24 true (.done)))))))))))))))))))))))))) (by kernel_rfl) ?_)
    | ((first | (with_reducible apply WL_op; intro nx hnx) | with_reducible refine Ev_out ?_ | (with_reducible apply popsD_op; intro nx hnx) | (with_reducible refine popsD_alt ?_ ?_; intro nx hnx)); try (simp (maxSteps := 2000000) (disch := omega) only [evb, evd, pbuiltin, constPV, pnck, seqK, blockK, scopeK, pbin, pun, ppick, plen, piaddr, pindex, pfield, pslice, pbound, pconv, pelems, pextract, pmm, PV.mem?, PV.one, PV.cells, pageq, peqs, peq1, pmakes, pstore, pbytes, pmark, pusd, pust, psrc, pkey, pnile, pcap, pgrow, List.set, Value.cells, ↓popG_eq, ↓pop.eq_1, ↓List.getElem?_map, ↓List.getElem?_cons_zero, ↓List.getElem?_cons_succ, Value.oneCell', Nat.reduceAdd, Nat.reduceMul, Nat.reduceSub, Nat.reduceLeDiff, Nat.reduceEqDiff, ↓reduceIte, ne_eq, reduceCtorEq, forall_const, exists_and_left, exists_eq_left', eq_self, Nat.reduceLT, Int.reduceLT, Int.reduceLE, Int.reduceToNat, Int.reduceAdd, Int.reduceSub, Int.reduceNeg, hnm, Tryd.tf0, Tryd.tf1, Tryd.tf3, Tryd.tf4, Tryd.tf9, Tryd.tf22, Tryd.tf23, Tryd.tf28, Tryd.tf36, Tryd.tf42, Tryd.tf45, Tryd.teq45, Tryd.teq94, Tryd.teq104, Tryd.teq113, Tryd.teq114, Tryd.call9, Tryd.call10, Tryd.call11, Tryd.call12, Tryd.call15, Tryd.call22, ← hs, List.take_length]); repeat (refine And.intro (by omega) ?_))
    | ((with_reducible first | apply WL_nil | apply W_label | apply W_skip | apply W_exit | apply W_ret | apply popsD_done); try simp only [seqK, blockK, scopeK, ↓reduceIte, Nat.reduceEqDiff])
    | with_reducible exact popsD_stop
    | (with_reducible apply pguard_intro <;> (intro hc; (try simp only [hcb, reduceCtorEq, forall_const, ne_eq] at hc); first | (exfalso; omega) | (exfalso; exact hc trivial) | refine Ev_in ?_))
    | (with_reducible apply W_cond_k; intro _ _ ea eb; (simp only [condK, cob, opnd, constPV, Nat.reduceEqDiff, Nat.reduceLT, ↓reduceIte, hcb, reduceCtorEq, forall_const, ne_eq]); subst ea eb; first | (refine ⟨fun hc => ?_, fun hc => ?_⟩ <;> first | (exfalso; omega) | (exfalso; exact hc trivial) | skip) | skip)
    | (with_reducible apply hnx; clear hnx nx)
    | (with_reducible refine And.intro (by omega) ?_)
    | (with_reducible refine And.intro ?_ ?_)
    | (with_reducible refine pcall_k (c1) ?_; rintro _ _ ⟨rfl, rfl⟩ -; refine Ev_in ?_)
    | (with_reducible refine pcall_k (c2) ?_; rintro _ _ ⟨rfl, rfl⟩ -; refine Ev_in ?_)
    | (with_reducible refine pcall_k (c3) ?_; rintro _ _ ⟨rfl, rfl⟩ -; refine Ev_in ?_)
    | (with_reducible refine pcall_k (d1) ?_; rintro _ _ ⟨rfl, rfl⟩ -; refine Ev_in ?_)
    | (with_reducible refine pcall_k (d2) ?_; rintro _ _ ⟨rfl, rfl⟩ -; refine Ev_in ?_)
    | (clear hnx nx; with_reducible apply hnx; clear hnx nx)
    | (clear hnx nx; clear hnx nx; with_reducible apply hnx; clear hnx nx)
    | (clear hnx nx; clear hnx nx; clear hnx nx; with_reducible apply hnx; clear hnx nx))
    all_goals first | exact absurd trivial hc | contradiction | exact fun h => False.elim h | (exfalso; omega) | (exfalso; have hc := of_decide_eq_false hc; omega) | (exfalso; simp only [Bool.not_false, Bool.not_true, decide_eq_true_eq, decide_eq_false_iff_not] at *; omega) | skip
    refine W_loop_k (fun z τ => ∃ (i : Nat), i ≤ w.length + 1 ∧ z = w.length + 1 - i ∧ τ = ⟨fr 126 [(14, pn i), (13, pint .i64 (textF a (w.take i)).length), (9, wP w), (8, pstr s), (7, ltsP a)], []⟩) (w.length + 1)
      ⟨fr 126 [(14, pn 0), (13, pint .i64 (textF a (w.take 0)).length), (9, wP w), (8, pstr s), (7, ltsP a)], []⟩ (by
      exact Wk_fr (by simp only [wkb, Nat.reduceEqDiff, Nat.reduceLT, ↓reduceIte, pn, List.take_zero, textF, List.flatMap_nil, List.length_nil]) (Sub_nil _)) ⟨0, by omega, by omega, rfl⟩ ?_
    rintro z τ ⟨i, hi, rfl, rfl⟩ lp hlp
    have hsat := fun h : i ≤ w.length => sound_at w s i s1 h s2
    by_cases hil : i < w.length
    · obtain ⟨q1, q2⟩ := hsat (by omega)
      rw [List.drop_eq_getElem_cons hil] at q1
      obtain ⟨hk, h0, h1, h2, h3, h4⟩ := q1
      have hgw : w[i]? = some w[i] := List.getElem?_eq_getElem hil
      have hgx : a[w[i].toNat]? = some a[w[i].toNat] := List.getElem?_eq_getElem hk
      have hti := htx _ (List.getElem_mem hk)
      have hsn : (textF a (w.take (i + 1))).length = (textF a (w.take i)).length + a[w[i].toNat].text.length := by
        rw [List.take_add_one, hgw]
        unfold textF
        rw [List.flatMap_append, List.length_append]
        simp only [Option.toList_some, List.flatMap_cons, List.flatMap_nil, List.append_nil]
        rw [getD_lt hk]
      obtain ⟨u, hu⟩ : ∃ u, u = a[w[i].toNat].text := ⟨_, rfl⟩
      rw [← hu] at h1 h2 h3 h4 hti hsn
      generalize textF a (w.take i) = T at *
      repeat' (first
    | (with_reducible apply W_seq_k; intro nx hnx)
    | (with_reducible first | apply W_block | apply W_scope)
    | (with_reducible refine W_prune 262087 ?_; simp only [prb, Nat.reducePow, Nat.reduceDiv, Nat.reduceMod, Nat.reduceBEq]; first | (with_reducible apply W_region_l) | with_reducible refine W_region_draw (id := 22) 1 (.op 0 true (.op 1 true (.op 2 true (.op 3 true (.op 4 true (.op 5 true (.op 6 true (.op 7 true (.op 8 true (.op 9 true (.op 10 true (.op 11 true (.op 12 true (.op 13 true (.op 14 true (.op 15 true (.op 16 true (.op 17 true (.op 18 true (.op 19 true (.op 20 true (.op 21 true (.op 22 true (.op 23 true (.op 24 true (.done)))))))))))))))))))))))))) (by kernel_rfl) ?_)
    | ((first | (with_reducible apply WL_op; intro nx hnx) | with_reducible refine Ev_out ?_ | (with_reducible apply popsD_op; intro nx hnx) | (with_reducible refine popsD_alt ?_ ?_; intro nx hnx)); try (simp (maxSteps := 2000000) (disch := omega) only [evb, evd, pbuiltin, constPV, pnck, seqK, blockK, scopeK, pbin, pun, ppick, plen, piaddr, pindex, pfield, pslice, pbound, pconv, pelems, pextract, pmm, PV.mem?, PV.one, PV.cells, pageq, peqs, peq1, pmakes, pstore, pbytes, pmark, pusd, pust, psrc, pkey, pnile, pcap, pgrow, List.set, Value.cells, ↓popG_eq, ↓pop.eq_1, ↓List.getElem?_map, ↓List.getElem?_cons_zero, ↓List.getElem?_cons_succ, Value.oneCell', Nat.reduceAdd, Nat.reduceMul, Nat.reduceSub, Nat.reduceLeDiff, Nat.reduceEqDiff, ↓reduceIte, ne_eq, reduceCtorEq, forall_const, exists_and_left, exists_eq_left', eq_self, Nat.reduceLT, Int.reduceLT, Int.reduceLE, Int.reduceToNat, Int.reduceAdd, Int.reduceSub, Int.reduceNeg, hnm, Tryd.tf0, Tryd.tf1, Tryd.tf3, Tryd.tf4, Tryd.tf9, Tryd.tf22, Tryd.tf23, Tryd.tf28, Tryd.tf36, Tryd.tf42, Tryd.tf45, Tryd.teq45, Tryd.teq94, Tryd.teq104, Tryd.teq113, Tryd.teq114, Tryd.call9, Tryd.call10, Tryd.call11, Tryd.call12, Tryd.call15, Tryd.call22, hgw, hgx, ← hu]); repeat (refine And.intro (by omega) ?_))
    | ((with_reducible first | apply WL_nil | apply W_label | apply W_skip | apply W_exit | apply W_ret | apply popsD_done); try simp only [seqK, blockK, scopeK, ↓reduceIte, Nat.reduceEqDiff])
    | with_reducible exact popsD_stop
    | (with_reducible apply pguard_intro <;> (intro hc; (try simp only [hcb, reduceCtorEq, forall_const, ne_eq] at hc); first | (exfalso; omega) | (exfalso; exact hc trivial) | refine Ev_in ?_))
    | (with_reducible apply W_cond_k; intro _ _ ea eb; (simp only [condK, cob, opnd, constPV, Nat.reduceEqDiff, Nat.reduceLT, ↓reduceIte, hcb, reduceCtorEq, forall_const, ne_eq]); subst ea eb; first | (refine ⟨fun hc => ?_, fun hc => ?_⟩ <;> first | (exfalso; omega) | (exfalso; exact hc trivial) | skip) | skip)
    | (with_reducible apply hnx; clear hnx nx)
    | (with_reducible refine And.intro (by omega) ?_)
    | (with_reducible refine And.intro ?_ ?_)
    | (clear hnx nx; with_reducible apply hnx; clear hnx nx)
    | (clear hnx nx; clear hnx nx; with_reducible apply hnx; clear hnx nx)
    | (clear hnx nx; clear hnx nx; clear hnx nx; with_reducible apply hnx; clear hnx nx))
      all_goals first | exact absurd trivial hc | contradiction | exact fun h => False.elim h | (exfalso; omega) | (exfalso; have hc := of_decide_eq_false hc; omega) | (exfalso; simp only [Bool.not_false, Bool.not_true, decide_eq_true_eq, decide_eq_false_iff_not] at *; omega) | skip
      refine W_loop_k (fun z τ => ∃ (j : Nat), j ≤ a.length ∧ z = a.length - j ∧ τ = ⟨fr 126 [(16, pn j), (15, pint .i64 u.length), (14, pn i), (13, pint .i64 T.length), (9, wP w), (8, pstr s), (7, ltsP a)], []⟩) a.length
        ⟨fr 126 [(16, pn 0), (15, pint .i64 u.length), (14, pn i), (13, pint .i64 T.length), (9, wP w), (8, pstr s), (7, ltsP a)], []⟩ (by
        exact Wk_fr (by simp only [wkb, Nat.reduceEqDiff, Nat.reduceLT, ↓reduceIte, pn]) (Sub_nil _)) ⟨0, by omega, by omega, rfl⟩ ?_
      rintro z τ ⟨j, hj, rfl, rfl⟩ lp2 hlp2
      by_cases hjl : j < a.length
      · have hgj : a[j]? = some a[j] := List.getElem?_eq_getElem hjl
        have htj := htx _ (List.getElem_mem hjl)
        have h3j := h3 j hjl
        have hpre : (a[j].text.isPrefixOf (s.drop T.length) = true) ↔ (T.length + a[j].text.length ≤ s.length ∧ List.drop T.length (List.take (T.length + a[j].text.length) s) = a[j].text) := by
          rw [List.isPrefixOf_iff_prefix, List.prefix_iff_eq_take, List.drop_take, Nat.add_sub_cancel_left]
          constructor
          · intro h
            refine ⟨?_, h.symm⟩
            have := congrArg List.length h
            rw [List.length_take, List.length_drop] at this
            omega
          · rintro ⟨_, h⟩
            exact h.symm
        rw [hpre] at h3j
        have hk0 : ((T.length : Int) + (a[j].text.length : Int)).toNat = T.length + a[j].text.length := by omega
        repeat' (first
    | (with_reducible apply W_seq_k; intro nx hnx)
    | (with_reducible first | apply W_block | apply W_scope)
    | (with_reducible refine W_prune 262087 ?_; simp only [prb, Nat.reducePow, Nat.reduceDiv, Nat.reduceMod, Nat.reduceBEq]; first | (with_reducible apply W_region_l) | with_reducible refine W_region_draw (id := 22) 1 (.op 0 true (.op 1 true (.op 2 true (.op 3 true (.op 4 true (.op 5 true (.op 6 true (.op 7 true (.op 8 true (.op 9 true (.op 10 true (.op 11 true (.op 12 true (.op 13 true (.op 14 true (.op 15 true (.op 16 true (.op 17 true (.op 18 true (.op 19 true (.op 20 true (.op 21 true (.op 22 true (.op 23 true (.op 24 true (.done)))))))))))))))))))))))))) (by kernel_rfl) ?_)
    | ((first | (with_reducible apply WL_op; intro nx hnx) | with_reducible refine Ev_out ?_ | (with_reducible apply popsD_op; intro nx hnx) | (with_reducible refine popsD_alt ?_ ?_; intro nx hnx)); try (simp (maxSteps := 2000000) (disch := omega) only [evb, evd, pbuiltin, constPV, pnck, seqK, blockK, scopeK, pbin, pun, ppick, plen, piaddr, pindex, pfield, pslice, pbound, pconv, pelems, pextract, pmm, PV.mem?, PV.one, PV.cells, pageq, peqs, peq1, pmakes, pstore, pbytes, pmark, pusd, pust, psrc, pkey, pnile, pcap, pgrow, List.set, Value.cells, ↓popG_eq, ↓pop.eq_1, ↓List.getElem?_map, ↓List.getElem?_cons_zero, ↓List.getElem?_cons_succ, Value.oneCell', Nat.reduceAdd, Nat.reduceMul, Nat.reduceSub, Nat.reduceLeDiff, Nat.reduceEqDiff, ↓reduceIte, ne_eq, reduceCtorEq, forall_const, exists_and_left, exists_eq_left', eq_self, Nat.reduceLT, Int.reduceLT, Int.reduceLE, Int.reduceToNat, Int.reduceAdd, Int.reduceSub, Int.reduceNeg, hnm, Tryd.tf0, Tryd.tf1, Tryd.tf3, Tryd.tf4, Tryd.tf9, Tryd.tf22, Tryd.tf23, Tryd.tf28, Tryd.tf36, Tryd.tf42, Tryd.tf45, Tryd.teq45, Tryd.teq94, Tryd.teq104, Tryd.teq113, Tryd.teq114, Tryd.call9, Tryd.call10, Tryd.call11, Tryd.call12, Tryd.call15, Tryd.call22, hgj, hk0]); repeat (refine And.intro (by omega) ?_))
    | ((with_reducible first | apply WL_nil | apply W_label | apply W_skip | apply W_exit | apply W_ret | apply popsD_done); try simp only [seqK, blockK, scopeK, ↓reduceIte, Nat.reduceEqDiff])
    | with_reducible exact popsD_stop
    | (with_reducible apply pguard_intro <;> (intro hc; (try simp only [hcb, reduceCtorEq, forall_const, ne_eq] at hc); first | (exfalso; omega) | (exfalso; exact hc trivial) | refine Ev_in ?_))
    | (with_reducible apply W_cond_k; intro _ _ ea eb; (simp only [condK, cob, opnd, constPV, Nat.reduceEqDiff, Nat.reduceLT, ↓reduceIte, hcb, reduceCtorEq, forall_const, ne_eq]); subst ea eb; first | (refine ⟨fun hc => ?_, fun hc => ?_⟩ <;> first | (exfalso; omega) | (exfalso; exact hc trivial) | skip) | skip)
    | (with_reducible apply hnx; clear hnx nx)
    | (with_reducible refine And.intro (by omega) ?_)
    | (with_reducible refine And.intro ?_ ?_)
    | (clear hnx nx; with_reducible apply hnx; clear hnx nx)
    | (clear hnx nx; clear hnx nx; with_reducible apply hnx; clear hnx nx)
    | (clear hnx nx; clear hnx nx; clear hnx nx; with_reducible apply hnx; clear hnx nx))
        all_goals first | exact absurd trivial hc | contradiction | exact fun h => False.elim h | (exfalso; omega) | (exfalso; have hc := of_decide_eq_false hc; omega) | (exfalso; simp only [Bool.not_false, Bool.not_true, decide_eq_true_eq, decide_eq_false_iff_not] at *; omega) | skip
        all_goals first
          | (exfalso
             refine h3j ?_ ⟨?_, ?_⟩
             · omega
             · omega
             · assumption
             done)
          | (refine hlp2 _ (a.length - (j + 1)) ⟨fr 126 [(16, pn (j + 1)), (15, pint .i64 u.length), (14, pn i), (13, pint .i64 T.length), (9, wP w), (8, pstr s), (7, ltsP a)], []⟩ (by omega) ?_ ⟨j + 1, by omega, rfl, rfl⟩
             exact Wk_fr (by simp only [wkb, Nat.reduceEqDiff, Nat.reduceLT, ↓reduceIte, pn]) (Sub_nil _))
      · have hj2 : j = a.length := by omega
        subst hj2
        repeat' (first
    | (with_reducible apply W_seq_k; intro nx hnx)
    | (with_reducible first | apply W_block | apply W_scope)
    | (with_reducible refine W_prune 262087 ?_; simp only [prb, Nat.reducePow, Nat.reduceDiv, Nat.reduceMod, Nat.reduceBEq]; first | (with_reducible apply W_region_l) | with_reducible refine W_region_draw (id := 22) 1 (.op 0 true (.op 1 true (.op 2 true (.op 3 true (.op 4 true (.op 5 true (.op 6 true (.op 7 true (.op 8 true (.op 9 true (.op 10 true (.op 11 true (.op 12 true (.op 13 true (.op 14 true (.op 15 true (.op 16 true (.op 17 true (.op 18 true (.op 19 true (.op 20 true (.op 21 true (.op 22 true (.op 23 true (.op 24 true (.done)))))))))))))))))))))))))) (by kernel_rfl) ?_)
    | ((first | (with_reducible apply WL_op; intro nx hnx) | with_reducible refine Ev_out ?_ | (with_reducible apply popsD_op; intro nx hnx) | (with_reducible refine popsD_alt ?_ ?_; intro nx hnx)); try (simp (maxSteps := 2000000) (disch := omega) only [evb, evd, pbuiltin, constPV, pnck, seqK, blockK, scopeK, pbin, pun, ppick, plen, piaddr, pindex, pfield, pslice, pbound, pconv, pelems, pextract, pmm, PV.mem?, PV.one, PV.cells, pageq, peqs, peq1, pmakes, pstore, pbytes, pmark, pusd, pust, psrc, pkey, pnile, pcap, pgrow, List.set, Value.cells, ↓popG_eq, ↓pop.eq_1, ↓List.getElem?_map, ↓List.getElem?_cons_zero, ↓List.getElem?_cons_succ, Value.oneCell', Nat.reduceAdd, Nat.reduceMul, Nat.reduceSub, Nat.reduceLeDiff, Nat.reduceEqDiff, ↓reduceIte, ne_eq, reduceCtorEq, forall_const, exists_and_left, exists_eq_left', eq_self, Nat.reduceLT, Int.reduceLT, Int.reduceLE, Int.reduceToNat, Int.reduceAdd, Int.reduceSub, Int.reduceNeg, hnm, Tryd.tf0, Tryd.tf1, Tryd.tf3, Tryd.tf4, Tryd.tf9, Tryd.tf22, Tryd.tf23, Tryd.tf28, Tryd.tf36, Tryd.tf42, Tryd.tf45, Tryd.teq45, Tryd.teq94, Tryd.teq104, Tryd.teq113, Tryd.teq114, Tryd.call9, Tryd.call10, Tryd.call11, Tryd.call12, Tryd.call15, Tryd.call22]); repeat (refine And.intro (by omega) ?_))
    | ((with_reducible first | apply WL_nil | apply W_label | apply W_skip | apply W_exit | apply W_ret | apply popsD_done); try simp only [seqK, blockK, scopeK, ↓reduceIte, Nat.reduceEqDiff])
    | with_reducible exact popsD_stop
    | (with_reducible apply pguard_intro <;> (intro hc; (try simp only [hcb, reduceCtorEq, forall_const, ne_eq] at hc); first | (exfalso; omega) | (exfalso; exact hc trivial) | refine Ev_in ?_))
    | (with_reducible apply W_cond_k; intro _ _ ea eb; (simp only [condK, cob, opnd, constPV, Nat.reduceEqDiff, Nat.reduceLT, ↓reduceIte, hcb, reduceCtorEq, forall_const, ne_eq]); subst ea eb; first | (refine ⟨fun hc => ?_, fun hc => ?_⟩ <;> first | (exfalso; omega) | (exfalso; exact hc trivial) | skip) | skip)
    | (with_reducible apply hnx; clear hnx nx)
    | (with_reducible refine And.intro (by omega) ?_)
    | (with_reducible refine And.intro ?_ ?_)
    | (clear hnx nx; with_reducible apply hnx; clear hnx nx)
    | (clear hnx nx; clear hnx nx; with_reducible apply hnx; clear hnx nx)
    | (clear hnx nx; clear hnx nx; clear hnx nx; with_reducible apply hnx; clear hnx nx))
        all_goals first | exact absurd trivial hc | contradiction | exact fun h => False.elim h | (exfalso; omega) | (exfalso; have hc := of_decide_eq_false hc; omega) | (exfalso; simp only [Bool.not_false, Bool.not_true, decide_eq_true_eq, decide_eq_false_iff_not] at *; omega) | skip
        refine hlp _ (w.length + 1 - (i + 1)) ⟨fr 126 [(14, pn (i + 1)), (13, pint .i64 (textF a (w.take (i + 1))).length), (9, wP w), (8, pstr s), (7, ltsP a)], []⟩ (by omega) ?_ ⟨i + 1, by omega, rfl, rfl⟩
        rw [hsn]
        exact Wk_fr (by simp only [wkb, Nat.reduceEqDiff, Nat.reduceLT, ↓reduceIte, pn]) (Sub_nil _)
    · by_cases hi2 : i = w.length
      · subst hi2
        obtain ⟨q1, q2⟩ := hsat (Nat.le_refl _)
        rw [List.drop_length] at q1
        have hsn : (textF a (w.take (w.length + 1))).length = (textF a (w.take w.length)).length + 0 := by
          rw [List.take_of_length_le (by omega), List.take_length]
          rfl
        generalize textF a (w.take w.length) = T at *
        have h3 : ∀ j (hj : j < a.length), 0 < a[j].text.length → ¬ a[j].text.isPrefixOf (s.drop T.length) = true := by
          intro j hj h0 hp
          rcases q1 with q1 | q1
          · rw [q1, List.isPrefixOf_iff_prefix] at hp
            have := hp.length_le
            simp at this
            rw [this] at h0
            simp at h0
          · exact q1 j hj hp
        repeat' (first
    | (with_reducible apply W_seq_k; intro nx hnx)
    | (with_reducible first | apply W_block | apply W_scope)
    | (with_reducible refine W_prune 262087 ?_; simp only [prb, Nat.reducePow, Nat.reduceDiv, Nat.reduceMod, Nat.reduceBEq]; first | (with_reducible apply W_region_l) | with_reducible refine W_region_draw (id := 22) 1 (.op 0 true (.op 1 true (.op 2 true (.op 3 true (.op 4 true (.op 5 true (.op 6 true (.op 7 true (.op 8 true (.op 9 true (.op 10 true (.op 11 true (.op 12 true (.op 13 true (.op 14 true (.op 15 true (.op 16 true (.op 17 true (.op 18 true (.op 19 true (.op 20 true (.op 21 true (.op 22 true (.op 23 true (.op 24 true (.done)))))))))))))))))))))))))) (by kernel_rfl) ?_)
    | ((first | (with_reducible apply WL_op; intro nx hnx) | with_reducible refine Ev_out ?_ | (with_reducible apply popsD_op; intro nx hnx) | (with_reducible refine popsD_alt ?_ ?_; intro nx hnx)); try (simp (maxSteps := 2000000) (disch := omega) only [evb, evd, pbuiltin, constPV, pnck, seqK, blockK, scopeK, pbin, pun, ppick, plen, piaddr, pindex, pfield, pslice, pbound, pconv, pelems, pextract, pmm, PV.mem?, PV.one, PV.cells, pageq, peqs, peq1, pmakes, pstore, pbytes, pmark, pusd, pust, psrc, pkey, pnile, pcap, pgrow, List.set, Value.cells, ↓popG_eq, ↓pop.eq_1, ↓List.getElem?_map, ↓List.getElem?_cons_zero, ↓List.getElem?_cons_succ, Value.oneCell', Nat.reduceAdd, Nat.reduceMul, Nat.reduceSub, Nat.reduceLeDiff, Nat.reduceEqDiff, ↓reduceIte, ne_eq, reduceCtorEq, forall_const, exists_and_left, exists_eq_left', eq_self, Nat.reduceLT, Int.reduceLT, Int.reduceLE, Int.reduceToNat, Int.reduceAdd, Int.reduceSub, Int.reduceNeg, hnm, Tryd.tf0, Tryd.tf1, Tryd.tf3, Tryd.tf4, Tryd.tf9, Tryd.tf22, Tryd.tf23, Tryd.tf28, Tryd.tf36, Tryd.tf42, Tryd.tf45, Tryd.teq45, Tryd.teq94, Tryd.teq104, Tryd.teq113, Tryd.teq114, Tryd.call9, Tryd.call10, Tryd.call11, Tryd.call12, Tryd.call15, Tryd.call22]); repeat (refine And.intro (by omega) ?_))
    | ((with_reducible first | apply WL_nil | apply W_label | apply W_skip | apply W_exit | apply W_ret | apply popsD_done); try simp only [seqK, blockK, scopeK, ↓reduceIte, Nat.reduceEqDiff])
    | with_reducible exact popsD_stop
    | (with_reducible apply pguard_intro <;> (intro hc; (try simp only [hcb, reduceCtorEq, forall_const, ne_eq] at hc); first | (exfalso; omega) | (exfalso; exact hc trivial) | refine Ev_in ?_))
    | (with_reducible apply W_cond_k; intro _ _ ea eb; (simp only [condK, cob, opnd, constPV, Nat.reduceEqDiff, Nat.reduceLT, ↓reduceIte, hcb, reduceCtorEq, forall_const, ne_eq]); subst ea eb; first | (refine ⟨fun hc => ?_, fun hc => ?_⟩ <;> first | (exfalso; omega) | (exfalso; exact hc trivial) | skip) | skip)
    | (with_reducible apply hnx; clear hnx nx)
    | (with_reducible refine And.intro (by omega) ?_)
    | (with_reducible refine And.intro ?_ ?_)
    | (clear hnx nx; with_reducible apply hnx; clear hnx nx)
    | (clear hnx nx; clear hnx nx; with_reducible apply hnx; clear hnx nx)
    | (clear hnx nx; clear hnx nx; clear hnx nx; with_reducible apply hnx; clear hnx nx))
        all_goals first | exact absurd trivial hc | contradiction | exact fun h => False.elim h | (exfalso; omega) | (exfalso; have hc := of_decide_eq_false hc; omega) | (exfalso; simp only [Bool.not_false, Bool.not_true, decide_eq_true_eq, decide_eq_false_iff_not] at *; omega) | skip
        refine W_loop_k (fun z τ => ∃ (j : Nat), j ≤ a.length ∧ z = a.length - j ∧ τ = ⟨fr 126 [(16, pn j), (15, pint .i64 (0 : Nat)), (14, pn w.length), (13, pint .i64 T.length), (9, wP w), (8, pstr s), (7, ltsP a)], []⟩) a.length
          ⟨fr 126 [(16, pn 0), (15, pint .i64 (0 : Nat)), (14, pn w.length), (13, pint .i64 T.length), (9, wP w), (8, pstr s), (7, ltsP a)], []⟩ (by
          exact Wk_fr (by simp only [wkb, Nat.reduceEqDiff, Nat.reduceLT, ↓reduceIte, pn]) (Sub_nil _)) ⟨0, by omega, by omega, rfl⟩ ?_
        rintro z τ ⟨j, hj, rfl, rfl⟩ lp2 hlp2
        by_cases hjl : j < a.length
        · have hgj : a[j]? = some a[j] := List.getElem?_eq_getElem hjl
          have htj := htx _ (List.getElem_mem hjl)
          have h3j := h3 j hjl
          have hpre : (a[j].text.isPrefixOf (s.drop T.length) = true) ↔ (T.length + a[j].text.length ≤ s.length ∧ List.drop T.length (List.take (T.length + a[j].text.length) s) = a[j].text) := by
            rw [List.isPrefixOf_iff_prefix, List.prefix_iff_eq_take, List.drop_take, Nat.add_sub_cancel_left]
            constructor
            · intro h
              refine ⟨?_, h.symm⟩
              have := congrArg List.length h
              rw [List.length_take, List.length_drop] at this
              omega
            · rintro ⟨_, h⟩
              exact h.symm
          rw [hpre] at h3j
          have hk0 : ((T.length : Int) + (a[j].text.length : Int)).toNat = T.length + a[j].text.length := by omega
          repeat' (first
    | (with_reducible apply W_seq_k; intro nx hnx)
    | (with_reducible first | apply W_block | apply W_scope)
    | (with_reducible refine W_prune 262087 ?_; simp only [prb, Nat.reducePow, Nat.reduceDiv, Nat.reduceMod, Nat.reduceBEq]; first | (with_reducible apply W_region_l) | with_reducible refine W_region_draw (id := 22) 1 (.op 0 true (.op 1 true (.op 2 true (.op 3 true (.op 4 true (.op 5 true (.op 6 true (.op 7 true (.op 8 true (.op 9 true (.op 10 true (.op 11 true (.op 12 true (.op 13 true (.op 14 true (.op 15 true (.op 16 true (.op 17 true (.op 18 true (.op 19 true (.op 20 true (.op 21 true (.op 22 true (.op 23 true (.op 24 true (.done)))))))))))))))))))))))))) (by kernel_rfl) ?_)
    | ((first | (with_reducible apply WL_op; intro nx hnx) | with_reducible refine Ev_out ?_ | (with_reducible apply popsD_op; intro nx hnx) | (with_reducible refine popsD_alt ?_ ?_; intro nx hnx)); try (simp (maxSteps := 2000000) (disch := omega) only [evb, evd, pbuiltin, constPV, pnck, seqK, blockK, scopeK, pbin, pun, ppick, plen, piaddr, pindex, pfield, pslice, pbound, pconv, pelems, pextract, pmm, PV.mem?, PV.one, PV.cells, pageq, peqs, peq1, pmakes, pstore, pbytes, pmark, pusd, pust, psrc, pkey, pnile, pcap, pgrow, List.set, Value.cells, ↓popG_eq, ↓pop.eq_1, ↓List.getElem?_map, ↓List.getElem?_cons_zero, ↓List.getElem?_cons_succ, Value.oneCell', Nat.reduceAdd, Nat.reduceMul, Nat.reduceSub, Nat.reduceLeDiff, Nat.reduceEqDiff, ↓reduceIte, ne_eq, reduceCtorEq, forall_const, exists_and_left, exists_eq_left', eq_self, Nat.reduceLT, Int.reduceLT, Int.reduceLE, Int.reduceToNat, Int.reduceAdd, Int.reduceSub, Int.reduceNeg, hnm, Tryd.tf0, Tryd.tf1, Tryd.tf3, Tryd.tf4, Tryd.tf9, Tryd.tf22, Tryd.tf23, Tryd.tf28, Tryd.tf36, Tryd.tf42, Tryd.tf45, Tryd.teq45, Tryd.teq94, Tryd.teq104, Tryd.teq113, Tryd.teq114, Tryd.call9, Tryd.call10, Tryd.call11, Tryd.call12, Tryd.call15, Tryd.call22, hgj, hk0]); repeat (refine And.intro (by omega) ?_))
    | ((with_reducible first | apply WL_nil | apply W_label | apply W_skip | apply W_exit | apply W_ret | apply popsD_done); try simp only [seqK, blockK, scopeK, ↓reduceIte, Nat.reduceEqDiff])
    | with_reducible exact popsD_stop
    | (with_reducible apply pguard_intro <;> (intro hc; (try simp only [hcb, reduceCtorEq, forall_const, ne_eq] at hc); first | (exfalso; omega) | (exfalso; exact hc trivial) | refine Ev_in ?_))
    | (with_reducible apply W_cond_k; intro _ _ ea eb; (simp only [condK, cob, opnd, constPV, Nat.reduceEqDiff, Nat.reduceLT, ↓reduceIte, hcb, reduceCtorEq, forall_const, ne_eq]); subst ea eb; first | (refine ⟨fun hc => ?_, fun hc => ?_⟩ <;> first | (exfalso; omega) | (exfalso; exact hc trivial) | skip) | skip)
    | (with_reducible apply hnx; clear hnx nx)
    | (with_reducible refine And.intro (by omega) ?_)
    | (with_reducible refine And.intro ?_ ?_)
    | (clear hnx nx; with_reducible apply hnx; clear hnx nx)
    | (clear hnx nx; clear hnx nx; with_reducible apply hnx; clear hnx nx)
    | (clear hnx nx; clear hnx nx; clear hnx nx; with_reducible apply hnx; clear hnx nx))
          all_goals first | exact absurd trivial hc | contradiction | exact fun h => False.elim h | (exfalso; omega) | (exfalso; have hc := of_decide_eq_false hc; omega) | (exfalso; simp only [Bool.not_false, Bool.not_true, decide_eq_true_eq, decide_eq_false_iff_not] at *; omega) | skip
          all_goals first
            | (exfalso
               refine h3j ?_ ⟨?_, ?_⟩
               · omega
               · omega
               · assumption
               done)
            | (refine hlp2 _ (a.length - (j + 1)) ⟨fr 126 [(16, pn (j + 1)), (15, pint .i64 (0 : Nat)), (14, pn w.length), (13, pint .i64 T.length), (9, wP w), (8, pstr s), (7, ltsP a)], []⟩ (by omega) ?_ ⟨j + 1, by omega, rfl, rfl⟩
               exact Wk_fr (by simp only [wkb, Nat.reduceEqDiff, Nat.reduceLT, ↓reduceIte, pn]) (Sub_nil _))
        · have hj2 : j = a.length := by omega
          subst hj2
          repeat' (first
    | (with_reducible apply W_seq_k; intro nx hnx)
    | (with_reducible first | apply W_block | apply W_scope)
    | (with_reducible refine W_prune 262087 ?_; simp only [prb, Nat.reducePow, Nat.reduceDiv, Nat.reduceMod, Nat.reduceBEq]; first | (with_reducible apply W_region_l) | with_reducible refine W_region_draw (id := 22) 1 (.op 0 true (.op 1 true (.op 2 true (.op 3 true (.op 4 true (.op 5 true (.op 6 true (.op 7 true (.op 8 true (.op 9 true (.op 10 true (.op 11 true (.op 12 true (.op 13 true (.op 14 true (.op 15 true (.op 16 true (.op 17 true (.op 18 true (.op 19 true (.op 20 true (.op 21 true (.op 22 true (.op 23 true (.op 24 true (.done)))))))))))))))))))))))))) (by kernel_rfl) ?_)
    | ((first | (with_reducible apply WL_op; intro nx hnx) | with_reducible refine Ev_out ?_ | (with_reducible apply popsD_op; intro nx hnx) | (with_reducible refine popsD_alt ?_ ?_; intro nx hnx)); try (simp (maxSteps := 2000000) (disch := omega) only [evb, evd, pbuiltin, constPV, pnck, seqK, blockK, scopeK, pbin, pun, ppick, plen, piaddr, pindex, pfield, pslice, pbound, pconv, pelems, pextract, pmm, PV.mem?, PV.one, PV.cells, pageq, peqs, peq1, pmakes, pstore, pbytes, pmark, pusd, pust, psrc, pkey, pnile, pcap, pgrow, List.set, Value.cells, ↓popG_eq, ↓pop.eq_1, ↓List.getElem?_map, ↓List.getElem?_cons_zero, ↓List.getElem?_cons_succ, Value.oneCell', Nat.reduceAdd, Nat.reduceMul, Nat.reduceSub, Nat.reduceLeDiff, Nat.reduceEqDiff, ↓reduceIte, ne_eq, reduceCtorEq, forall_const, exists_and_left, exists_eq_left', eq_self, Nat.reduceLT, Int.reduceLT, Int.reduceLE, Int.reduceToNat, Int.reduceAdd, Int.reduceSub, Int.reduceNeg, hnm, Tryd.tf0, Tryd.tf1, Tryd.tf3, Tryd.tf4, Tryd.tf9, Tryd.tf22, Tryd.tf23, Tryd.tf28, Tryd.tf36, Tryd.tf42, Tryd.tf45, Tryd.teq45, Tryd.teq94, Tryd.teq104, Tryd.teq113, Tryd.teq114, Tryd.call9, Tryd.call10, Tryd.call11, Tryd.call12, Tryd.call15, Tryd.call22]); repeat (refine And.intro (by omega) ?_))
    | ((with_reducible first | apply WL_nil | apply W_label | apply W_skip | apply W_exit | apply W_ret | apply popsD_done); try simp only [seqK, blockK, scopeK, ↓reduceIte, Nat.reduceEqDiff])
    | with_reducible exact popsD_stop
    | (with_reducible apply pguard_intro <;> (intro hc; (try simp only [hcb, reduceCtorEq, forall_const, ne_eq] at hc); first | (exfalso; omega) | (exfalso; exact hc trivial) | refine Ev_in ?_))
    | (with_reducible apply W_cond_k; intro _ _ ea eb; (simp only [condK, cob, opnd, constPV, Nat.reduceEqDiff, Nat.reduceLT, ↓reduceIte, hcb, reduceCtorEq, forall_const, ne_eq]); subst ea eb; first | (refine ⟨fun hc => ?_, fun hc => ?_⟩ <;> first | (exfalso; omega) | (exfalso; exact hc trivial) | skip) | skip)
    | (with_reducible apply hnx; clear hnx nx)
    | (with_reducible refine And.intro (by omega) ?_)
    | (with_reducible refine And.intro ?_ ?_)
    | (clear hnx nx; with_reducible apply hnx; clear hnx nx)
    | (clear hnx nx; clear hnx nx; with_reducible apply hnx; clear hnx nx)
    | (clear hnx nx; clear hnx nx; clear hnx nx; with_reducible apply hnx; clear hnx nx))
          all_goals first | exact absurd trivial hc | contradiction | exact fun h => False.elim h | (exfalso; omega) | (exfalso; have hc := of_decide_eq_false hc; omega) | (exfalso; simp only [Bool.not_false, Bool.not_true, decide_eq_true_eq, decide_eq_false_iff_not] at *; omega) | skip
          refine hlp _ (w.length + 1 - (w.length + 1)) ⟨fr 126 [(14, pn (w.length + 1)), (13, pint .i64 (textF a (w.take (w.length + 1))).length), (9, wP w), (8, pstr s), (7, ltsP a)], []⟩ (by omega) ?_ ⟨w.length + 1, by omega, rfl, rfl⟩
          rw [hsn]
          exact Wk_fr (by simp only [wkb, Nat.reduceEqDiff, Nat.reduceLT, ↓reduceIte, pn]) (Sub_nil _)
      · have hi3 : i = w.length + 1 := by omega
        subst hi3
        repeat' (first
    | (with_reducible apply W_seq_k; intro nx hnx)
    | (with_reducible first | apply W_block | apply W_scope)
    | (with_reducible refine W_prune 262087 ?_; simp only [prb, Nat.reducePow, Nat.reduceDiv, Nat.reduceMod, Nat.reduceBEq]; first | (with_reducible apply W_region_l) | with_reducible refine W_region_draw (id := 22) 1 (.op 0 true (.op 1 true (.op 2 true (.op 3 true (.op 4 true (.op 5 true (.op 6 true (.op 7 true (.op 8 true (.op 9 true (.op 10 true (.op 11 true (.op 12 true (.op 13 true (.op 14 true (.op 15 true (.op 16 true (.op 17 true (.op 18 true (.op 19 true (.op 20 true (.op 21 true (.op 22 true (.op 23 true (.op 24 true (.done)))))))))))))))))))))))))) (by kernel_rfl) ?_)
    | ((first | (with_reducible apply WL_op; intro nx hnx) | with_reducible refine Ev_out ?_ | (with_reducible apply popsD_op; intro nx hnx) | (with_reducible refine popsD_alt ?_ ?_; intro nx hnx)); try (simp (maxSteps := 2000000) (disch := omega) only [evb, evd, pbuiltin, constPV, pnck, seqK, blockK, scopeK, pbin, pun, ppick, plen, piaddr, pindex, pfield, pslice, pbound, pconv, pelems, pextract, pmm, PV.mem?, PV.one, PV.cells, pageq, peqs, peq1, pmakes, pstore, pbytes, pmark, pusd, pust, psrc, pkey, pnile, pcap, pgrow, List.set, Value.cells, ↓popG_eq, ↓pop.eq_1, ↓List.getElem?_map, ↓List.getElem?_cons_zero, ↓List.getElem?_cons_succ, Value.oneCell', Nat.reduceAdd, Nat.reduceMul, Nat.reduceSub, Nat.reduceLeDiff, Nat.reduceEqDiff, ↓reduceIte, ne_eq, reduceCtorEq, forall_const, exists_and_left, exists_eq_left', eq_self, Nat.reduceLT, Int.reduceLT, Int.reduceLE, Int.reduceToNat, Int.reduceAdd, Int.reduceSub, Int.reduceNeg, hnm, Tryd.tf0, Tryd.tf1, Tryd.tf3, Tryd.tf4, Tryd.tf9, Tryd.tf22, Tryd.tf23, Tryd.tf28, Tryd.tf36, Tryd.tf42, Tryd.tf45, Tryd.teq45, Tryd.teq94, Tryd.teq104, Tryd.teq113, Tryd.teq114, Tryd.call9, Tryd.call10, Tryd.call11, Tryd.call12, Tryd.call15, Tryd.call22]); repeat (refine And.intro (by omega) ?_))
    | ((with_reducible first | apply WL_nil | apply W_label | apply W_skip | apply W_exit | apply W_ret | apply popsD_done); try simp only [seqK, blockK, scopeK, ↓reduceIte, Nat.reduceEqDiff])
    | with_reducible exact popsD_stop
    | (with_reducible apply pguard_intro <;> (intro hc; (try simp only [hcb, reduceCtorEq, forall_const, ne_eq] at hc); first | (exfalso; omega) | (exfalso; exact hc trivial) | refine Ev_in ?_))
    | (with_reducible apply W_cond_k; intro _ _ ea eb; (simp only [condK, cob, opnd, constPV, Nat.reduceEqDiff, Nat.reduceLT, ↓reduceIte, hcb, reduceCtorEq, forall_const, ne_eq]); subst ea eb; first | (refine ⟨fun hc => ?_, fun hc => ?_⟩ <;> first | (exfalso; omega) | (exfalso; exact hc trivial) | skip) | skip)
    | (with_reducible apply hnx; clear hnx nx)
    | (with_reducible refine And.intro (by omega) ?_)
    | (with_reducible refine And.intro ?_ ?_)
    | (with_reducible refine pcall_k (c9) ?_; rintro _ _ ⟨rfl, rfl⟩ -; refine Ev_in ?_)
    | (clear hnx nx; with_reducible apply hnx; clear hnx nx)
    | (clear hnx nx; clear hnx nx; with_reducible apply hnx; clear hnx nx)
    | (clear hnx nx; clear hnx nx; clear hnx nx; with_reducible apply hnx; clear hnx nx))
        all_goals first | exact absurd trivial hc | contradiction | exact fun h => False.elim h | (exfalso; omega) | (exfalso; have hc := of_decide_eq_false hc; omega) | (exfalso; simp only [Bool.not_false, Bool.not_true, decide_eq_true_eq, decide_eq_false_iff_not] at *; omega) | skip
        (refine hfin _ _ (Fin_ret1 rfl (Sub_nil _) ?_); simp only [List.getD_cons_zero, List.getD_cons_succ, fr_getD_cons, fr_getD_nil, Nat.reduceEqDiff, Nat.reduceLT, ↓reduceIte]; first | trivial | exact ⟨rfl, by trivial⟩ | (simp; done) | (simp; omega))
end Go.PM
