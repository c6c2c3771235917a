/- Joined texts (Vq Ne Nf Ng Nh Ni Nj Nk Np Nr Nl Nma Nm Nn Nt Od): the machine, the contracts, the laws. Conditions: none but those that each names. -/
import Derived.Test.YtmnfkfikhcjeaaaJc
import Derived.Deep.LoopGhost
import Derived.Deep.RegionLaw
import Derived.Lib.SliceRun
import Derived.Lib.SlicesDelete
import Derived.Lib.Walk
import Derived.Shelf.RegionOpenPlain
import Derived.Sort.EncStr
import Derived.Sort.WalkB12
import Derived.Test.YtmnfkfikhcjeaaaChecked
set_option linter.unusedSimpArgs false
set_option linter.unusedVariables false
namespace Go.PM
open Go.Proofs
theorem gC_enc (size : Nat) (n : Nat) (r : List UInt8) (hs : 1 ≤ size) (hn : n ≤ 9223372036854775807) (h : n * size ≤ r.length) : gC size (intB n ++ r) = ((n : Int), (intB n).length, 0) := by
  have hg := gI_intB (n := n) ⟨by omega, by omega⟩ r
  unfold gC
  rw [hg]
  rw [if_neg (by simp), if_neg (by simp only; omega), if_neg]
  simp only [List.length_append]
  rw [show (intB n).length + r.length - (intB n).length = r.length by omega]
  have : (n : Int) ≤ (r.length : Int) / size := by
    rw [Int.le_ediv_iff_mul_le (by omega)]
    exact_mod_cast h
  omega
theorem gS_enc (s t : List UInt8) (h : s.length ≤ 4294967296) : gS (bytesB s ++ t) = (s, (bytesB s).length, 0) := by
  have hg := gC_enc 1 s.length (s ++ t) (by omega) (by omega) (by simp)
  unfold gS bytesB
  rw [List.append_assoc, hg, if_neg (by simp)]
  simp
theorem gC_take {size : Nat} {b : List UInt8} (hs : 1 ≤ size) (h : (gC size b).2.2 = 0) : b.take (gC size b).2.1 = intB (gC size b).1 := by
  obtain ⟨h1, -⟩ := gC_ok hs h
  have h2 := gI_ok (b := b) (n := (gC size b).1) (u := (gC size b).2.1) (by rw [h1, ← h])
  exact h2.2.1
section
variable {α : Type} {g : List UInt8 → α × Nat × Int} {enc : α → List UInt8}
theorem gL_enc : ∀ (l : List α) (t : List UInt8), (∀ x ∈ l, ∀ t, g (enc x ++ t) = (x, (enc x).length, 0)) → gL g l.length (l.flatMap enc ++ t) = (l, (l.flatMap enc).length, 0)
  | [], t, _ => rfl
  | x :: l, t, h => by
    have ih := gL_enc l t fun y hy => h y (.tail _ hy)
    have hx := h x (.head _) (l.flatMap enc ++ t)
    rw [List.flatMap_cons, List.append_assoc, List.length_cons, gL, hx]
    rw [if_neg (by simp)]
    simp only [List.drop_left, ih]
    rw [if_neg (by simp), List.length_append]
theorem gLs_enc (size : Nat) (l : List α) (t : List UInt8) (hs : 1 ≤ size) (hl : l.length ≤ 4294967296) (h : ∀ x ∈ l, ∀ t, g (enc x ++ t) = (x, (enc x).length, 0)) (hsz : ∀ x ∈ l, size ≤ (enc x).length) :
    gLs g size (encL enc l ++ t) = (l, (encL enc l).length, 0) := by
  have hb : l.length * size ≤ (l.flatMap enc).length := by
    clear hl h
    induction l with
    | nil => simp
    | cons x l ih =>
      have h1 := ih fun y hy => hsz y (.tail _ hy)
      have h2 := hsz x (.head _)
      rw [List.flatMap_cons, List.length_append, List.length_cons, Nat.succ_mul]
      omega
  have hc := gC_enc size l.length (l.flatMap enc ++ t) hs (by omega) (by rw [List.length_append]; omega)
  unfold gLs encL
  rw [List.append_assoc, hc, if_neg (by simp)]
  simp only [List.drop_left, Int.toNat_natCast]
  rw [gL_enc l t h]
  unfold comb
  rw [if_neg (by simp)]
  simp
theorem gL_ok : ∀ (k : Nat) (b : List UInt8), (∀ b, (g b).2.2 = 0 → (g b).2.1 ≤ b.length ∧ b.take (g b).2.1 = enc (g b).1) → (gL g k b).2.2 = 0 →
    (gL g k b).2.1 ≤ b.length ∧ b.take (gL g k b).2.1 = (gL g k b).1.flatMap enc ∧ (gL g k b).1.length = k
  | 0, b, _, _ => by simp [gL]
  | k + 1, b, h, he => by
    rw [gL] at he ⊢
    split at he
    · rename_i h1
      exact absurd he h1
    · rename_i h1
      rw [if_neg h1]
      split at he
      · rename_i h2
        exact absurd he h2
      · rename_i h2
        rw [if_neg h2]
        obtain ⟨a1, a2⟩ := h b (by simpa using h1)
        obtain ⟨b1, b2, b3⟩ := gL_ok k (b.drop (g b).2.1) h (by simpa using h2)
        rw [List.length_drop] at b1
        refine ⟨by simp only; omega, ?_, by simp [b3]⟩
        simp only
        rw [List.flatMap_cons, ← a2, ← b2, List.take_add]
theorem gLs_ok (size : Nat) (b : List UInt8) (hs : 1 ≤ size) (h : ∀ b, (g b).2.2 = 0 → (g b).2.1 ≤ b.length ∧ b.take (g b).2.1 = enc (g b).1) (he : (gLs g size b).2.2 = 0) :
    (gLs g size b).2.1 ≤ b.length ∧ b.take (gLs g size b).2.1 = encL enc (gLs g size b).1 ∧ ((gLs g size b).1.length : Int) * size ≤ b.length := by
  unfold gLs at he ⊢
  split at he
  · rename_i h1
    exact absurd he h1
  · rename_i h1
    rw [if_neg h1]
    have h2 : (gC size b).2.2 = 0 := by simpa using h1
    obtain ⟨h3, h4, h5, h6, h7⟩ := gC_ok hs h2
    have h8 := gC_take hs h2
    unfold comb at he ⊢
    split at he
    · rename_i h9
      exact absurd he h9
    · rename_i h9
      rw [if_neg h9]
      obtain ⟨b1, b2, b3⟩ := gL_ok (gC size b).1.toNat (b.drop (gC size b).2.1) h (by simpa using h9)
      rw [List.length_drop] at b1
      obtain ⟨k, hk⟩ : ∃ k : Nat, (gC size b).1 = k := ⟨(gC size b).1.toNat, by omega⟩
      refine ⟨by simp only; omega, ?_, ?_⟩
      · simp only [List.nil_append]
        unfold encL
        rw [b3, ← b2, List.take_add, h8, hk, Int.toNat_natCast]
      · simp only [List.nil_append]
        rw [b3]
        rw [hk] at h7 ⊢
        rw [Int.toNat_natCast]
        omega
end
theorem gI_ok2 (b : List UInt8) (h : (gI b).2.2 = 0) : (gI b).2.1 ≤ b.length ∧ b.take (gI b).2.1 = intB (gI b).1 := by
  have := gI_ok (b := b) (n := (gI b).1) (u := (gI b).2.1) (by rw [← h])
  exact ⟨this.1, this.2.1⟩
end Go.PM

namespace Go.PM
open Go.Proofs
attribute [local irreducible] W PCalls pcall pcallI WL
theorem Fin_cell2 {P : Program} {x y : Tmp} {t : TypeId} {F : TF} {n : Int} {off : Nat} {o : PObj} {R : PV → Heap → Prop} {σ : PState} {p q : PV} {H : Heap} (hF : tf P t = some F) (hx : σ.frame.getD x .junk = .ptr n off) (hl : look σ.heap n = some o)
    (hp : pload F o.cells off fun r => p = r) (hy : σ.frame.getD y .junk = q) (h2 : Sub H σ.heap) (h3 : R (.tuple [p, q]) H) : Fin P [.cell x t, .tmp y] R .ret σ :=
  Fin_ret (show PResult P σ [.cell x t, .tmp y] (.tuple [p, q]) from ⟨[p, q], ⟨by
    show PRes P σ (.cell x t) p
    simp only [PRes, hF, hx, hl]
    exact hp, hy.symm, trivial⟩, rfl⟩) h2 h3
/-- A packet comes back, and whether there is one. -/
def RDr (x : (Int × Int × List UInt8) × Bool) (res : PV) (H : Heap) : Prop :=
  H = [] ∧ ((x.2 = false ∧ ∃ (a b : Int) (c : PV), (c = pnil ∨ ∃ l, c = pl l) ∧ res = .tuple [.agg [pint .i64 a, pint .i64 b, c], pbool false]) ∨ (x.2 = true ∧ res = .tuple [pkP x.1, pbool true]))
theorem gS_len (b : List UInt8) : (gS b).1.length ≤ b.length := by
  unfold gS
  split
  · simp
  · simp only [List.length_take, List.length_drop]
    omega
theorem gLsI_le (c : List UInt8) (h : (gLs gI 1 c).2.2 = 0) : (gLs gI 1 c).2.1 ≤ c.length := (gLs_ok (g := gI) (enc := intB) 1 c (by omega) gI_ok2 h).1
set_option maxRecDepth 100000 in
set_option maxHeartbeats 8000000 in
theorem read_c2 (G : Globs) (c : List UInt8) (hc : c.length ≤ 4294900000) : PCalls Try.prog G 36 [pl c] [] (RDr (readF c)) := by
  have c1 := getInts_c G c (by omega)
  have hle := gLsI_le c
  have hnorm := gLs_norm gI 1 c
  have hX : readF c = if (gLs gI 1 c).2.2 ≠ 0 ∨ (gLs gI 1 c).1.length ≠ 2 then ((0, 0, []), false)
    else if (gS (c.drop (gLs gI 1 c).2.1)).2.2 ≠ 0 ∨ (gLs gI 1 c).2.1 + (gS (c.drop (gLs gI 1 c).2.1)).2.1 ≠ c.length then ((0, 0, []), false)
    else (((gLs gI 1 c).1.getD 0 0, (gLs gI 1 c).1.getD 1 0, (gS (c.drop (gLs gI 1 c).2.1)).1), okP ((gLs gI 1 c).1.getD 0 0, (gLs gI 1 c).1.getD 1 0, (gS (c.drop (gLs gI 1 c).2.1)).1)) := rfl
  rw [hX]
  clear hX
  generalize gLs gI 1 c = X at *
  obtain ⟨l, u, e⟩ := X
  simp only at *
  by_cases h1 : e ≠ 0 ∨ l.length ≠ 2
  · rw [if_pos h1]
    (refine PCalls_f Try.func36 rfl Try.ntmps36 Try.results36 (by simp) fun fin hfin => ?_; have hnm : True := trivial; simp (maxSteps := 2000000) (disch := omega) only [evb, evd, pbuiltin, constPV, pnck, seqK, blockK, scopeK, pbin, pun, ppick, plen, piaddr, pindex, pfield, pslice, pbound, pconv, pelems, pextract, pmm, PV.mem?, PV.one, PV.cells, pageq, peqs, peq1, pmakes, pstore, pbytes, pmark, psrc, pkey, pnile, pcap, pgrow, List.set, Value.cells, ↓popG_eq, ↓pop.eq_1, ↓List.getElem?_map, ↓List.getElem?_cons_zero, ↓List.getElem?_cons_succ, Value.oneCell', Nat.reduceAdd, Nat.reduceMul, Nat.reduceSub, Nat.reduceLeDiff, Nat.reduceEqDiff, ↓reduceIte, ne_eq, reduceCtorEq, forall_const, exists_and_left, exists_eq_left', eq_self, Nat.reduceLT, Int.reduceLT, Int.reduceLE, Int.reduceToNat, Int.reduceAdd, Int.reduceSub, Int.reduceNeg, hnm, Try.tf0, Try.tf1, Try.tf2, Try.tf3, Try.tf4, Try.tf5, Try.tf9, Try.tf23, Try.tf33, Try.tf34, Try.tf68, Try.teq79, Try.tf84, Try.tf86, Try.call46, Try.call47, Try.call48])
    repeat' (first
    | (with_reducible apply W_seq_k; intro nx hnx)
    | (with_reducible first | apply W_block | apply W_scope)
    | (with_reducible refine W_prune 1021 ?_; simp only [prb, Nat.reducePow, Nat.reduceDiv, Nat.reduceMod, Nat.reduceBEq]; first | (with_reducible apply W_region_l) | with_reducible refine W_region_draw (id := 7) 1 (.op 0 true (.op 1 true (.op 2 true (.op 3 true (.op 4 true (.op 5 true (.op 6 true (.alt 7 true (.op 8 true (.op 9 true (.op 10 false (.done)))) (.alt 9 true (.op 7 true (.op 8 true (.op 10 false (.done)))) .stop))))))))) (by kernel_rfl) ?_ | with_reducible refine W_region_draw (id := 8) 2 (.op 0 true (.op 1 true (.op 2 true (.op 3 false (.op 4 true (.done)))))) (by kernel_rfl) ?_)
    | ((first | (with_reducible apply WL_op; intro nx hnx) | with_reducible refine Ev_out ?_ | (with_reducible apply popsD_op; intro nx hnx) | (with_reducible refine popsD_alt ?_ ?_; intro nx hnx) | (with_reducible refine pfresh_k hnm fun nm hnm => ?_; (try simp only [fmb] at hnm)) | (with_reducible refine pborn_mu hnm fun nm hnm => ?_; (try simp only [fmb] at hnm))); try (simp (maxSteps := 2000000) (disch := omega) only [evb, evd, pbuiltin, constPV, pnck, seqK, blockK, scopeK, pbin, pun, ppick, plen, piaddr, pindex, pfield, pslice, pbound, pconv, pelems, pextract, pmm, PV.mem?, PV.one, PV.cells, pageq, peqs, peq1, pmakes, pstore, pbytes, pmark, psrc, pkey, pnile, pcap, pgrow, List.set, Value.cells, ↓popG_eq, ↓pop.eq_1, ↓List.getElem?_map, ↓List.getElem?_cons_zero, ↓List.getElem?_cons_succ, Value.oneCell', Nat.reduceAdd, Nat.reduceMul, Nat.reduceSub, Nat.reduceLeDiff, Nat.reduceEqDiff, ↓reduceIte, ne_eq, reduceCtorEq, forall_const, exists_and_left, exists_eq_left', eq_self, Nat.reduceLT, Int.reduceLT, Int.reduceLE, Int.reduceToNat, Int.reduceAdd, Int.reduceSub, Int.reduceNeg, hnm, Try.tf0, Try.tf1, Try.tf2, Try.tf3, Try.tf4, Try.tf5, Try.tf9, Try.tf23, Try.tf33, Try.tf34, Try.tf68, Try.teq79, Try.tf84, Try.tf86, Try.call46, Try.call47, Try.call48]); repeat (refine And.intro (by omega) ?_))
    | ((with_reducible first | apply WL_nil | apply W_label | apply W_skip | apply W_exit | apply W_ret | apply popsD_done); try simp only [seqK, blockK, scopeK, ↓reduceIte, Nat.reduceEqDiff])
    | with_reducible exact popsD_stop
    | (with_reducible apply pguard_intro <;> (intro hc; (try simp only [hcb, reduceCtorEq, forall_const, ne_eq] at hc); first | (exfalso; omega) | (exfalso; exact hc trivial) | refine Ev_in ?_))
    | (with_reducible apply W_cond_k; intro _ _ ea eb; (simp only [condK, cob, opnd, constPV, Nat.reduceEqDiff, Nat.reduceLT, ↓reduceIte, hcb, reduceCtorEq, forall_const, ne_eq]); subst ea eb; first | (refine ⟨fun hc => ?_, fun hc => ?_⟩ <;> first | (exfalso; omega) | (exfalso; exact hc trivial) | skip) | skip)
    | (with_reducible apply hnx; clear hnx nx)
    | (with_reducible refine And.intro (by omega) ?_)
    | (with_reducible refine And.intro ?_ ?_)
    | (with_reducible refine pcall_k (c1) ?_; rintro _ _ ⟨rfl, rfl⟩ -; refine Ev_in ?_)
    | (clear hnx nx; with_reducible apply hnx; clear hnx nx)
    | (clear hnx nx; clear hnx nx; with_reducible apply hnx; clear hnx nx)
    | (clear hnx nx; clear hnx nx; clear hnx nx; with_reducible apply hnx; clear hnx nx))
    all_goals first
      | (exfalso
         omega)
      | skip
    all_goals
      refine hfin _ _ (Fin_cell2 (p := .agg [pint .i64 0, pint .i64 0, pnil]) (q := pbool false) Try.tf68 (n := nm) (off := 0) (o := ⟨68, false, 0, [pint .i64 0, pint .i64 0, pnil]⟩) (by simp only [fr_getD_cons, Nat.reduceEqDiff, Nat.reduceLT, ↓reduceIte]) (by simp only [look, ↓reduceIte]) ?_ (by simp only [fr_getD_cons, Nat.reduceEqDiff, Nat.reduceLT, ↓reduceIte]) (Sub_nil _) ⟨rfl, .inl ⟨rfl, 0, 0, pnil, .inl rfl, rfl⟩⟩)
      simp [pload]
  · have he : e = 0 := by omega
    subst he
    have hl : l.length = 2 := by omega
    obtain ⟨s, a, rfl⟩ : ∃ s a, l = [s, a] := by
      match l, hl with
      | [s, a], _ => exact ⟨s, a, rfl⟩
    rw [if_neg h1]
    have hu := hle rfl
    obtain ⟨d, hd⟩ : ∃ d, d = c.drop u := ⟨_, rfl⟩
    have hdl : d.length + u = c.length := by rw [hd, List.length_drop]; omega
    have c2 := getBytes_c G d (by omega)
    have hgl := gS_le d (by omega)
    have hgn := gS_len d
    have hd2 : List.drop u (c.map pbyte) = d.map pbyte := by rw [hd, List.map_drop]
    have htb : List.take c.length (c.map pbyte) = c.map pbyte := List.take_of_length_le (by simp)
    have c3 := valid_c G (s, a, (gS d).1)
    rw [← hd]
    generalize gS d = Y at *
    obtain ⟨b, m, f⟩ := Y
    simp only [List.map_cons, List.map_nil, List.getD_cons_zero, List.getD_cons_succ] at *
    generalize okP (s, a, b) = k at *
    clear h1 hle hnorm hl
    have hbs : bytes b = b.map pbyte := rfl
    (refine PCalls_f Try.func36 rfl Try.ntmps36 Try.results36 (by simp) fun fin hfin => ?_; have hnm : True := trivial; simp (maxSteps := 2000000) (disch := omega) only [evb, evd, pbuiltin, constPV, pnck, seqK, blockK, scopeK, pbin, pun, ppick, plen, piaddr, pindex, pfield, pslice, pbound, pconv, pelems, pextract, pmm, PV.mem?, PV.one, PV.cells, pageq, peqs, peq1, pmakes, pstore, pbytes, pmark, psrc, pkey, pnile, pcap, pgrow, List.set, Value.cells, ↓popG_eq, ↓pop.eq_1, ↓List.getElem?_map, ↓List.getElem?_cons_zero, ↓List.getElem?_cons_succ, Value.oneCell', Nat.reduceAdd, Nat.reduceMul, Nat.reduceSub, Nat.reduceLeDiff, Nat.reduceEqDiff, ↓reduceIte, ne_eq, reduceCtorEq, forall_const, exists_and_left, exists_eq_left', eq_self, Nat.reduceLT, Int.reduceLT, Int.reduceLE, Int.reduceToNat, Int.reduceAdd, Int.reduceSub, Int.reduceNeg, hnm, Try.tf0, Try.tf1, Try.tf2, Try.tf3, Try.tf4, Try.tf5, Try.tf9, Try.tf23, Try.tf33, Try.tf34, Try.tf68, Try.teq79, Try.tf84, Try.tf86, Try.call46, Try.call47, Try.call48])
    with_reducible apply W_seq_k
    intro nx hnx
    repeat' (first
    | (with_reducible first | apply W_block | apply W_scope)
    | (with_reducible refine W_prune 1021 ?_; simp only [prb, Nat.reducePow, Nat.reduceDiv, Nat.reduceMod, Nat.reduceBEq]; first | (with_reducible apply W_region_l) | with_reducible refine W_region_draw (id := 7) 1 (.op 0 true (.op 1 true (.op 2 true (.op 3 true (.op 4 true (.op 5 true (.op 6 true (.alt 7 true (.op 8 true (.op 9 true (.op 10 false (.done)))) (.alt 9 true (.op 7 true (.op 8 true (.op 10 false (.done)))) .stop))))))))) (by kernel_rfl) ?_ | with_reducible refine W_region_draw (id := 8) 2 (.op 0 true (.op 1 true (.op 2 true (.op 3 false (.op 4 true (.done)))))) (by kernel_rfl) ?_)
    | ((first | (with_reducible apply WL_op; intro nx hnx) | with_reducible refine Ev_out ?_ | (with_reducible apply popsD_op; intro nx hnx) | (with_reducible refine popsD_alt ?_ ?_; intro nx hnx) | (with_reducible refine pfresh_k hnm fun nm hnm => ?_; (try simp only [fmb] at hnm)) | (with_reducible refine pborn_mu hnm fun nm hnm => ?_; (try simp only [fmb] at hnm))); try (simp (maxSteps := 2000000) (disch := omega) only [evb, evd, pbuiltin, constPV, pnck, seqK, blockK, scopeK, pbin, pun, ppick, plen, piaddr, pindex, pfield, pslice, pbound, pconv, pelems, pextract, pmm, PV.mem?, PV.one, PV.cells, pageq, peqs, peq1, pmakes, pstore, pbytes, pmark, psrc, pkey, pnile, pcap, pgrow, List.set, Value.cells, ↓popG_eq, ↓pop.eq_1, ↓List.getElem?_map, ↓List.getElem?_cons_zero, ↓List.getElem?_cons_succ, Value.oneCell', Nat.reduceAdd, Nat.reduceMul, Nat.reduceSub, Nat.reduceLeDiff, Nat.reduceEqDiff, ↓reduceIte, ne_eq, reduceCtorEq, forall_const, exists_and_left, exists_eq_left', eq_self, Nat.reduceLT, Int.reduceLT, Int.reduceLE, Int.reduceToNat, Int.reduceAdd, Int.reduceSub, Int.reduceNeg, hnm, Try.tf0, Try.tf1, Try.tf2, Try.tf3, Try.tf4, Try.tf5, Try.tf9, Try.tf23, Try.tf33, Try.tf34, Try.tf68, Try.teq79, Try.tf84, Try.tf86, Try.call46, Try.call47, Try.call48]); repeat (refine And.intro (by omega) ?_))
    | ((with_reducible first | apply WL_nil | apply W_label | apply W_skip | apply W_exit | apply W_ret | apply popsD_done); try simp only [seqK, blockK, scopeK, ↓reduceIte, Nat.reduceEqDiff])
    | with_reducible exact popsD_stop
    | (with_reducible apply pguard_intro <;> (intro hc; (try simp only [hcb, reduceCtorEq, forall_const, ne_eq] at hc); first | (exfalso; omega) | (exfalso; exact hc trivial) | refine Ev_in ?_))
    | (with_reducible apply W_cond_k; intro _ _ ea eb; (simp only [condK, cob, opnd, constPV, Nat.reduceEqDiff, Nat.reduceLT, ↓reduceIte, hcb, reduceCtorEq, forall_const, ne_eq]); subst ea eb; first | (refine ⟨fun hc => ?_, fun hc => ?_⟩ <;> first | (exfalso; omega) | (exfalso; exact hc trivial) | skip) | skip)
    | (with_reducible apply hnx; clear hnx nx)
    | (with_reducible refine And.intro (by omega) ?_)
    | (with_reducible refine And.intro ?_ ?_)
    | (clear hnx nx; with_reducible apply hnx; clear hnx nx)
    | (clear hnx nx; clear hnx nx; with_reducible apply hnx; clear hnx nx)
    | (clear hnx nx; clear hnx nx; clear hnx nx; with_reducible apply hnx; clear hnx nx))
    obtain ⟨N, hN⟩ : ∃ N, N = nm := ⟨_, rfl⟩
    subst hN
    repeat' (first
    | (with_reducible apply W_seq_k; intro nx hnx)
    | (with_reducible first | apply W_block | apply W_scope)
    | (with_reducible refine W_prune 1021 ?_; simp only [prb, Nat.reducePow, Nat.reduceDiv, Nat.reduceMod, Nat.reduceBEq]; first | (with_reducible apply W_region_l) | with_reducible refine W_region_draw (id := 7) 1 (.op 0 true (.op 1 true (.op 2 true (.op 3 true (.op 4 true (.op 5 true (.op 6 true (.alt 7 true (.op 8 true (.op 9 true (.op 10 false (.done)))) (.alt 9 true (.op 7 true (.op 8 true (.op 10 false (.done)))) .stop))))))))) (by kernel_rfl) ?_ | with_reducible refine W_region_draw (id := 8) 2 (.op 0 true (.op 1 true (.op 2 true (.op 3 false (.op 4 true (.done)))))) (by kernel_rfl) ?_)
    | ((first | (with_reducible apply WL_op; intro nx hnx) | with_reducible refine Ev_out ?_ | (with_reducible apply popsD_op; intro nx hnx) | (with_reducible refine popsD_alt ?_ ?_; intro nx hnx) | (with_reducible refine pfresh_k hnm fun nm hnm => ?_; (try simp only [fmb] at hnm)) | (with_reducible refine pborn_mu hnm fun nm hnm => ?_; (try simp only [fmb] at hnm))); try (simp (maxSteps := 2000000) (disch := omega) only [evb, evd, pbuiltin, constPV, pnck, seqK, blockK, scopeK, pbin, pun, ppick, plen, piaddr, pindex, pfield, pslice, pbound, pconv, pelems, pextract, pmm, PV.mem?, PV.one, PV.cells, pageq, peqs, peq1, pmakes, pstore, pbytes, pmark, psrc, pkey, pnile, pcap, pgrow, List.set, Value.cells, ↓popG_eq, ↓pop.eq_1, ↓List.getElem?_map, ↓List.getElem?_cons_zero, ↓List.getElem?_cons_succ, Value.oneCell', Nat.reduceAdd, Nat.reduceMul, Nat.reduceSub, Nat.reduceLeDiff, Nat.reduceEqDiff, ↓reduceIte, ne_eq, reduceCtorEq, forall_const, exists_and_left, exists_eq_left', eq_self, Nat.reduceLT, Int.reduceLT, Int.reduceLE, Int.reduceToNat, Int.reduceAdd, Int.reduceSub, Int.reduceNeg, hnm, Try.tf0, Try.tf1, Try.tf2, Try.tf3, Try.tf4, Try.tf5, Try.tf9, Try.tf23, Try.tf33, Try.tf34, Try.tf68, Try.teq79, Try.tf84, Try.tf86, Try.call46, Try.call47, Try.call48, htb, hd2, hbs]); repeat (refine And.intro (by omega) ?_))
    | ((with_reducible first | apply WL_nil | apply W_label | apply W_skip | apply W_exit | apply W_ret | apply popsD_done); try simp only [seqK, blockK, scopeK, ↓reduceIte, Nat.reduceEqDiff])
    | with_reducible exact popsD_stop
    | (with_reducible apply pguard_intro <;> (intro hc; (try simp only [hcb, reduceCtorEq, forall_const, ne_eq] at hc); first | (exfalso; omega) | (exfalso; exact hc trivial) | refine Ev_in ?_))
    | (with_reducible apply W_cond_k; intro _ _ ea eb; (simp only [condK, cob, opnd, constPV, Nat.reduceEqDiff, Nat.reduceLT, ↓reduceIte, hcb, reduceCtorEq, forall_const, ne_eq]); subst ea eb; first | (refine ⟨fun hc => ?_, fun hc => ?_⟩ <;> first | (exfalso; omega) | (exfalso; exact hc trivial) | skip) | skip)
    | (with_reducible apply hnx; clear hnx nx)
    | (with_reducible refine And.intro (by omega) ?_)
    | (with_reducible refine And.intro ?_ ?_)
    | (with_reducible refine pcall_k (c1) ?_; rintro _ _ ⟨rfl, rfl⟩ -; refine Ev_in ?_)
    | (with_reducible refine pcall_k (c2) ?_; rintro _ _ ⟨rfl, rfl⟩ -; refine Ev_in ?_)
    | (with_reducible refine pcall_k (c3) ?_; rintro _ _ ⟨rfl, rfl⟩ -; refine Ev_in ?_)
    | (clear hnx nx; with_reducible apply hnx; clear hnx nx)
    | (clear hnx nx; clear hnx nx; with_reducible apply hnx; clear hnx nx)
    | (clear hnx nx; clear hnx nx; clear hnx nx; with_reducible apply hnx; clear hnx nx))
    all_goals first
      | exact rfl
      | omega
      | (exfalso
         omega)
      | exact absurd trivial hc
      | (rw [if_pos (show f ≠ 0 ∨ u + m ≠ c.length by omega)] at hfin
         refine hfin _ _ (Fin_cell2 (p := .agg [pint .i64 0, pint .i64 0, pnil]) (q := pbool false) Try.tf68 (n := N) (off := 0) (o := ⟨68, false, 0, [pint .i64 0, pint .i64 0, pnil]⟩) (by simp only [fr_getD_cons, Nat.reduceEqDiff, Nat.reduceLT, ↓reduceIte]) (by simp only [look, ↓reduceIte]) ?_ (by simp only [fr_getD_cons, Nat.reduceEqDiff, Nat.reduceLT, ↓reduceIte]) (Sub_nil _) ⟨rfl, .inl ⟨rfl, 0, 0, pnil, .inl rfl, rfl⟩⟩)
         simp [pload])
      | (rw [if_neg (show ¬ (f ≠ 0 ∨ u + m ≠ c.length) by omega)] at hfin
         refine hfin _ _ (Fin_cell2 (p := .agg [pint .i64 s, pint .i64 a, pl b]) (q := pbool k) Try.tf68 (n := N) (off := 0) (o := ⟨68, false, 0, [pint .i64 s, pint .i64 a, pl b]⟩) (by simp only [fr_getD_cons, Nat.reduceEqDiff, Nat.reduceLT, ↓reduceIte]) (by simp only [look, hnm, ↓reduceIte]) ?_ (by simp only [fr_getD_cons, Nat.reduceEqDiff, Nat.reduceLT, ↓reduceIte]) (Sub_nil _) ⟨rfl, ?_⟩)
         · simp [pload]
         · cases k
           · exact .inl ⟨rfl, s, a, pl b, .inr ⟨b, rfl⟩, rfl⟩
           · exact .inr ⟨rfl, rfl⟩)
end Go.PM

namespace Go.PM
open Go.Proofs
attribute [local irreducible] W PCalls pcall pcallI WL
/-- A number from 0 on, below another one. -/
def arN (n : Int) (most : Nat) : Nat := (if n < 0 then (-1 - n).toNat else n.toNat) % most
theorem arN_lt (n : Int) (most : Nat) (h : 0 < most) : arN n most < most := Nat.mod_lt _ h
theorem around_c (G : Globs) (n : Int) (most : Nat) (h : 0 < most) (hm : most ≤ 4294967296) (hn : inR n) : PCalls Try.prog G 10 [pint .i64 n, pint .i64 most] [] (fun res H => res = pint .i64 (arN n most : Nat) ∧ H = []) := by
  obtain ⟨h1, h2⟩ := hn
  have e : ∀ (x : Int), 0 ≤ x → x.tmod most = ((x.toNat % most : Nat) : Int) := fun x hx => by
    rw [Int.tmod_eq_emod_of_nonneg hx, Int.natCast_emod, Int.toNat_of_nonneg hx]
  unfold arN
  (refine PCalls_f Try.func10 rfl Try.ntmps10 Try.results10 (by simp) fun fin hfin => ?_; have hnm : True := trivial; simp (maxSteps := 2000000) (disch := omega) only [evb, evd, pbuiltin, constPV, pnck, seqK, blockK, scopeK, pbin, pun, ppick, plen, piaddr, pindex, pfield, pslice, pbound, pconv, pelems, pextract, pmm, PV.mem?, PV.one, PV.cells, pageq, peqs, peq1, pmakes, pstore, pbytes, pmark, psrc, pkey, pnile, pcap, pgrow, List.set, Value.cells, ↓popG_eq, ↓pop.eq_1, ↓List.getElem?_map, ↓List.getElem?_cons_zero, ↓List.getElem?_cons_succ, Value.oneCell', Nat.reduceAdd, Nat.reduceMul, Nat.reduceSub, Nat.reduceLeDiff, Nat.reduceEqDiff, ↓reduceIte, ne_eq, reduceCtorEq, forall_const, exists_and_left, exists_eq_left', eq_self, Nat.reduceLT, Int.reduceLT, Int.reduceLE, Int.reduceToNat, Int.reduceAdd, Int.reduceSub, Int.reduceNeg, hnm, Try.tf3, Try.tf4, Try.teq79])
  repeat' (first
    | (with_reducible apply W_seq_k; intro nx hnx)
    | (with_reducible first | apply W_block | apply W_scope)
    | (with_reducible refine W_prune 19 ?_; simp only [prb, Nat.reducePow, Nat.reduceDiv, Nat.reduceMod, Nat.reduceBEq]; with_reducible apply W_region_l)
    | ((first | (with_reducible apply WL_op; intro nx hnx) | with_reducible refine Ev_out ?_); try (simp (maxSteps := 2000000) (disch := omega) only [evb, evd, pbuiltin, constPV, pnck, seqK, blockK, scopeK, pbin, pun, ppick, plen, piaddr, pindex, pfield, pslice, pbound, pconv, pelems, pextract, pmm, PV.mem?, PV.one, PV.cells, pageq, peqs, peq1, pmakes, pstore, pbytes, pmark, psrc, pkey, pnile, pcap, pgrow, List.set, Value.cells, ↓popG_eq, ↓pop.eq_1, ↓List.getElem?_map, ↓List.getElem?_cons_zero, ↓List.getElem?_cons_succ, Value.oneCell', Nat.reduceAdd, Nat.reduceMul, Nat.reduceSub, Nat.reduceLeDiff, Nat.reduceEqDiff, ↓reduceIte, ne_eq, reduceCtorEq, forall_const, exists_and_left, exists_eq_left', eq_self, Nat.reduceLT, Int.reduceLT, Int.reduceLE, Int.reduceToNat, Int.reduceAdd, Int.reduceSub, Int.reduceNeg, hnm, Try.tf3, Try.tf4, Try.teq79]); repeat (refine And.intro (by omega) ?_))
    | ((with_reducible first | apply WL_nil | apply W_label | apply W_skip | apply W_exit | apply W_ret); try simp only [seqK, blockK, scopeK, ↓reduceIte, Nat.reduceEqDiff])
    | (with_reducible apply W_cond_k; intro _ _ ea eb; (simp only [condK, cob, opnd, constPV, Nat.reduceEqDiff, Nat.reduceLT, ↓reduceIte, hcb, reduceCtorEq, forall_const, ne_eq]); subst ea eb; first | (refine ⟨fun hc => ?_, fun hc => ?_⟩ <;> first | (exfalso; omega) | (exfalso; exact hc trivial) | skip) | skip)
    | (with_reducible apply hnx; clear hnx nx)
    | (with_reducible refine And.intro (by omega) ?_)
    | (with_reducible refine And.intro ?_ ?_)
    | (clear hnx nx; with_reducible apply hnx; clear hnx nx)
    | (clear hnx nx; clear hnx nx; with_reducible apply hnx; clear hnx nx)
    | (clear hnx nx; clear hnx nx; clear hnx nx; with_reducible apply hnx; clear hnx nx))
  all_goals first
    | (exfalso
       omega)
    | skip
  · rw [if_pos hc] at hfin
    refine hfin _ _ (Fin_ret1 rfl (Sub_nil _) ?_); simp only [List.getD_cons_zero, List.getD_cons_succ, fr_getD_cons, fr_getD_nil, Nat.reduceEqDiff, Nat.reduceLT, ↓reduceIte]
    rw [e _ (by omega), show (0 - (n + 1)).toNat = (-1 - n).toNat by omega]
    exact ⟨rfl, by trivial⟩
  · rw [if_neg hc] at hfin
    refine hfin _ _ (Fin_ret1 rfl (Sub_nil _) ?_); simp only [List.getD_cons_zero, List.getD_cons_succ, fr_getD_cons, fr_getD_nil, Nat.reduceEqDiff, Nat.reduceLT, ↓reduceIte]
    rw [e _ (by omega)]
    exact ⟨rfl, by trivial⟩
end Go.PM

namespace Go.Proofs
open Go.Shelf Go.RowKit Go.Lib Go.Sort
set_option maxHeartbeats 4000000 in
set_option maxRecDepth 1000000 in
/-- The library's function over cells of one value each. -/
theorem delete_raw (blk off cap i j : Nat) (d : Array Value) (w : World) (h1 : ∀ u ∈ d.toList, u.oneCell' = true) (hH : Holds id w blk off d) (hcap : d.size ≤ cap) (hm : cap ≤ 9223372036854775807) (hlt : i < j) (hj : j ≤ d.size) :
    Calls Try.prog 37 #[.slice (some ⟨blk, off, none⟩) d.size cap, .int .i64 i, .int .i64 j] w fun e w' => e = .returned (.slice (some ⟨blk, off, none⟩) (d.size - (j - i)) cap) ∧
      w' = (w.drew.setCells blk (off + i * 1) (d.toList.drop j)).setCells blk (off + (i + (d.size - j))) (List.replicate (d.size - (i + (d.size - j))) (.slice none 0 0)) := by
  have mixed : Try.prog.follows Departure.mixedOrders = true := by kernel_rfl
  have t28 : Try.prog.underlying 28 = some (.slice 33) := by kernel_rfl
  obtain ⟨i0, hi0, hz0, hz1, hz2⟩ := info_parts (show (Try.prog.info? 33).map (fun i => (i.zero, i.size, i.bytes)) = some (some (.slice none 0 0), 1, 24) by kernel_rfl)
  have v33 : ∀ w, (zeroValue 33).run Try.prog w = .ok (.slice none 0 0) w := fun w => PM.zero_run PM.Try.tf33 rfl w
  obtain ⟨news, hnews⟩ : ∃ news, news = d.toList.drop j := ⟨_, rfl⟩
  have hlen : news.length = d.size - j := by rw [hnews]; simp
  have hget : ∀ t, t < d.size - j → news[t]? = some (d[j + t]!) := by
    intro t ht
    rw [hnews, List.getElem?_drop, Array.getElem?_toList, getElem!_pos d (j + t) (by omega), Array.getElem?_eq_getElem (by omega)]
  obtain ⟨A, hA, hsrc⟩ : ∃ A : Addr, (if cap = j then some (⟨blk, off, none⟩ : Addr) else some ⟨blk, off + j, none⟩) = some A ∧ Hid (∀ t u, news[t]? = some u → w.drew.cell? (A.add t) = some u) := by
    by_cases h : cap = j
    · refine ⟨⟨blk, off, none⟩, by simp [h], fun t u hu => ?_⟩
      have h0 : news.length = 0 := by rw [hlen]; omega
      rw [List.length_eq_zero_iff.1 h0] at hu
      simp at hu
    · refine ⟨⟨blk, off + j, none⟩, by simp [h], fun t u hu => ?_⟩
      have ht : t < d.size - j := by
        have := (List.getElem?_eq_some_iff.1 hu).1
        rwa [hlen] at this
      rw [hget t ht] at hu
      rw [Addr.add_lit, show off + j + t = off + (j + t) by omega]
      exact (hH (j + t) (by omega)).1.trans hu
  have s1 : Hid (news.length = (d.size - j) * 1) := by rw [Nat.mul_one]; exact hlen
  have s2 : Hid (∀ u ∈ news, u.oneCell' = true) := by
    intro u hu
    rw [hnews] at hu
    exact h1 u (List.mem_of_mem_drop hu)
  have s3 : Hid (∀ t, t < news.length → (w.drew.cell? ⟨blk, off + i * 1 + t, none⟩).isSome = true ∧ w.drew.frozen? ⟨blk, off + i * 1 + t, none⟩ = false) := by
    intro t ht
    rw [hlen] at ht
    rw [Nat.mul_one, Nat.add_assoc]
    exact ⟨by show (w.cell? _).isSome = true; rw [(hH (i + t) (by omega)).1]; rfl, (hH (i + t) (by omega)).2⟩
  obtain ⟨W1, hW1⟩ : ∃ W1, W1 = w.drew.setCells blk (off + i * 1) news := ⟨_, rfl⟩
  have hW1' : W1 = putRow id (Sort.ahead w 1) blk off (lay d i (d.toList.drop j)) := by
    have e := putRow_setCells id (Sort.ahead w 1) blk off (d.toList.drop j) d i (by simp; omega)
    rw [putRow_self id (Sort.ahead w 1) blk off d (holds_ahead id w 1 blk off d hH), List.map_id] at e
    rw [hW1, hnews, Nat.mul_one, ← e]
    rfl
  have hH1 : Holds id W1 blk off (lay d i (d.toList.drop j)) := by rw [hW1']; exact holds_putRow id _ blk off d _ (holds_ahead id w 1 blk off d hH) (lay_size _ _ _)
  have hcl : ∀ ty, (Builtin.clear_ #[28] ty #[.slice (some ⟨blk, off + (i + (d.size - j)), none⟩) (d.size - (i + (d.size - j))) (cap - (i + (d.size - j)))]).run Try.prog W1 = .ok (.tuple #[]) (W1.setCells blk (off + (i + (d.size - j))) (List.replicate (d.size - (i + (d.size - j))) (.slice none 0 0))) :=
    fun ty => Lib.run_clear_slice W1 _ _ ty _ t28 v33 rfl rfl blk (off + (i + (d.size - j))) _ _ (by omega) (fun t ht => by rw [show off + (i + (d.size - j)) + t = off + (i + (d.size - j) + t) by omega, (hH1 _ (by rw [lay_size]; omega)).1]; rfl) (fun t ht => by rw [show off + (i + (d.size - j)) + t = off + (i + (d.size - j) + t) by omega]; exact (hH1 _ (by rw [lay_size]; omega)).2)
  have hW : Hid (W1 = w.drew.setCells blk (off + i * 1) news) := hW1
  have hic : i ≤ cap := by omega
  have hjc : j ≤ cap := by omega
  rw [← hnews, ← hW1]
  clear hW1 hW1' hH1 hH hget hnews hlen
  go_enter Try.func37, Try.ntmps37
  go_wp2_with fail
  go_region_law_o (refine step_append_room rfl (.tmp 22) (.tmp 25) 28 rfl 33 i0 1 t28 hi0 hz1 blk off i cap (by simp [Act.eval, Act.put]) A (d.size - j) (cap - j) news (by simp [Act.eval, Act.put]) s1.out hsrc.out s2.out (by omega) s3.out ?_; rw [← hW.out])
  go_wp2
  go_ret
  exact ⟨by rw [show d.size - (j - i) = i + (d.size - j) by omega]; rfl, rfl⟩
end Go.Proofs
namespace Go.PM
open Go.Proofs
/-- Less is told of a row. -/
theorem Sim.cut {G : Globs} {E : Amb} {A : Nat → Prop} {fr : List PV} {a : Act} {w : World} {N : Int} {t : TypeId} {es : Nat} {cells more : List PV} (hs : Sim G E A ⟨fr, [(N, ⟨t, true, es, cells ++ more⟩)]⟩ a w) : Sim G E A ⟨fr, [(N, ⟨t, true, es, cells⟩)]⟩ a w := by
  refine ⟨hs.ext, hs.lt, hs.a0, hs.a1, hs.globs, hs.nodup, fun m o h => ?_, fun m o h => ?_, fun m o h => ?_, hs.defers, hs.size, hs.frame⟩
  · simp only [List.mem_singleton] at h
    cases h
    rcases hs.objs N _ List.mem_cons_self with ⟨g1, g2, g3⟩ | ⟨b, cur, fz, f, rfl, q1, q2, q3, q4⟩ | ⟨b, m, clock, rfl, q1, q2, _⟩
    · exact .inl ⟨g1, g2, (List.append_eq_nil_iff.1 g3).1⟩
    · exact .inr (.inl ⟨b, cur, fz, f, rfl, q1, q2, q3, fun j u hu => q4 j u (by
        have hj : j < cells.length := (List.getElem?_eq_some_iff.1 hu).1
        rw [List.getElem?_append_left hj]
        exact hu)⟩)
    · cases q2
  · simp only [List.mem_singleton] at h
    cases h
    exact hs.own N _ List.mem_cons_self
  · simp only [List.mem_singleton] at h
    cases h
    exact hs.neg N _ List.mem_cons_self
set_option maxRecDepth 100000 in
theorem delete_c (G : Globs) (N : Int) (cells : List PV) (len n : Nat) (hl : cells.length = len) (h0 : 0 < n) (hn : n ≤ len) : PCalls Try.prog G 37 [.row N 1 len, pint .i64 0, pint .i64 n] [(N, ⟨33, true, 1, cells⟩)]
    (fun res H => res = .row N 1 (len - n) ∧ H = [(N, ⟨33, true, 1, cells.drop n⟩)]) := by
  intro w A F vals hA hG hnd hobj hown hsz hvals
  obtain ⟨v0, e0, r0⟩ := hvals 0 _ rfl
  obtain ⟨v1, e1, r1⟩ := hvals 1 _ rfl
  obtain ⟨v2, e2, r2⟩ := hvals 2 _ rfl
  have r1 := r1.val_eq
  have r2 := r2.val_eq
  subst r1
  subst r2
  rcases r0.row_inv with ⟨_, h, _⟩ | ⟨b, c, Nn, t, rfl, rfl, hsh, hN, hlc, hmx⟩
  · omega
  have ev : vals = #[.slice (some (at_ b 0)) len c, .int .i64 0, .int .i64 n] := by
    apply Array.ext
    · simpa using hsz
    · intro i h1 h2
      have h3 : i < 3 := by simpa using h2
      match i, h3 with
      | 0, _ => rw [Array.getElem?_eq_getElem h1] at e0; simpa using Option.some.inj e0
      | 1, _ => rw [Array.getElem?_eq_getElem h1] at e1; simpa using Option.some.inj e1
      | 2, _ => rw [Array.getElem?_eq_getElem h1] at e2; simpa using Option.some.inj e2
  subst ev
  have hs : Sim G ⟨w, A, [(b : Int)], F⟩ A ⟨[], [((b : Int), ⟨33, true, 1, cells⟩)]⟩ ⟨#[], []⟩ w :=
    ⟨Ext.refl _ _, hA, fun _ h => h, fun _ h => .inl h, hG, hnd, hobj, fun m o h x hx => ⟨(hown m o h x hx).1, (hown m o h x hx).2, .inr (by
      simp only [List.mem_singleton] at h
      cases h
      show (x : Int) ∈ [(b : Int)]
      rw [hx]
      exact List.mem_singleton.2 rfl)⟩, fun m o h hm => .inr (by
      simp only [List.mem_singleton] at h
      cases h
      simp), rfl, rfl, by simp⟩
  obtain ⟨cur, fz, f, hh, hu, hg, hc⟩ := (hobj _ _ List.mem_cons_self).block rfl hsh
  have hfz := hg rfl
  subst hfz
  have hcur : cur.size = c := by
    simp [World.shape?, hh] at hsh
    omega
  obtain ⟨d, hd⟩ : ∃ d : Array Value, d = ((List.range len).map f).toArray := ⟨_, rfl⟩
  have hds : d.size = len := by rw [hd]; simp
  have hdg : ∀ j, j < len → d[j]! = f j := fun j hj => by
    rw [getElem!_pos d j (by omega)]
    simp [hd]
  have hce : ∀ j, j < len → ∃ u, cells[j]? = some u := fun j hj => ⟨_, List.getElem?_eq_getElem (by omega)⟩
  have hone : ∀ u ∈ d.toList, u.oneCell' = true := by
    intro u hu
    rw [hd] at hu
    simp only [List.mem_map, List.mem_range] at hu
    obtain ⟨j, hj, rfl⟩ := hu
    obtain ⟨p, hp⟩ := hce j hj
    exact (one_cells (hc j p hp).2.1 (hc j p hp).2.2).2
  have hH : Sort.Holds id w b 0 d := by
    intro j hj
    rw [hds] at hj
    obtain ⟨p, hp⟩ := hce j hj
    refine ⟨?_, ?_⟩
    · rw [hdg j hj, Nat.zero_add]
      show w.cell? (at_ b j) = some (f j)
      rw [cell_of_block hh]
      exact (hc j p hp).1
    · simp [World.frozen?, hh]
  have hraw := delete_raw b 0 c 0 n d w hone hH (by omega) (by simpa [maxLen] using hmx) h0 (by omega)
  rw [hds] at hraw
  refine Calls.mono hraw ?_
  rintro e w' ⟨rfl, rfl⟩
  have hb1 : (d.toList.drop n).length = len - n := by simp [hds]
  have hs1 := hs.drawn
  have hst := hs1.store (sh := (t, Nn)) (vs := d.toList.drop n) (xs := cells.drop n) (off := 0) (b := b) (n := (b : Int)) (o := ⟨33, true, 1, cells⟩) (by simp [look]) rfl hsh (by rw [hb1, List.length_drop, hl]) (by omega) (.inl (by simp)) (fun j u hu => by
    rw [List.getElem?_drop] at hu
    have hj : n + j < len := by
      have := (List.getElem?_eq_some_iff.1 hu).1
      omega
    refine ⟨(hc _ u hu).2.1, f (n + j), ?_, (hc _ u hu).2.2.ext (Ext.drew (fun _ => False) w) (fun _ h => h) (fun _ _ h => h)⟩
    rw [List.getElem?_drop, Array.getElem?_toList, hd]
    simp [hj])
  have hsh2 := (Ext.setCells (M := fun x => x = b) b rfl (d.toList.drop n) 0 w.drew).shape _ _ hsh
  have hu1 : upd [((b : Int), (⟨33, true, 1, cells⟩ : PObj))] b ⟨33, true, 1, cells.take 0 ++ cells.drop n ++ cells.drop (0 + (cells.drop n).length)⟩ = [((b : Int), ⟨33, true, 1, cells.drop n ++ cells.drop (len - n)⟩)] := by
    simp [upd, hl]
  simp only at hst
  rw [hu1] at hst
  have hst2 := hst.store (sh := (t, Nn)) (vs := List.replicate n (.slice none 0 0)) (xs := List.replicate n pnil) (off := len - n) (b := b) (n := (b : Int)) (o := ⟨33, true, 1, cells.drop n ++ cells.drop (len - n)⟩) (by simp [look]) rfl hsh2 (by simp) (by simp [hl]) (.inl (by simp [hl]; omega)) (fun j u hu => by
    have hj : j < n := by
      have := (List.getElem?_eq_some_iff.1 hu).1
      simpa using this
    rw [List.getElem?_replicate, if_pos hj] at hu
    cases hu
    exact ⟨rfl, _, by rw [List.getElem?_replicate, if_pos hj], .val _⟩)
  have hu2 : upd [((b : Int), (⟨33, true, 1, cells.drop n ++ cells.drop (len - n)⟩ : PObj))] b ⟨33, true, 1, (cells.drop n ++ cells.drop (len - n)).take (len - n) ++ List.replicate n pnil ++ (cells.drop n ++ cells.drop (len - n)).drop (len - n + (List.replicate n pnil).length)⟩ = [((b : Int), ⟨33, true, 1, cells.drop n ++ List.replicate n pnil⟩)] := by
    simp only [upd, if_true]
    have a1 : (cells.drop n ++ cells.drop (len - n)).take (len - n) = cells.drop n := List.take_left' (by simp [hl])
    have a2 : (cells.drop n ++ cells.drop (len - n)).drop (len - n + (List.replicate n pnil).length) = [] := List.drop_of_length_le (by simp [hl]; omega)
    rw [a1, a2, List.append_nil]
  simp only at hst2
  rw [hu2] at hst2
  have hfin := hst2.cut
  refine ⟨_, A, .row b 1 (len - n), _, rfl, ⟨rfl, rfl⟩, ?_, ?_⟩
  · refine Rep.row b 1 (len - n) c Nn t ?_ hN (by omega) hmx
    exact (Ext.setCells (M := fun x => x = b) b rfl _ _ _).shape _ _ hsh2
  · have e3 : 0 + (0 + (len - n)) = len - n := by omega
    have e4 : len - (0 + (len - n)) = n := by omega
    rw [e3, e4]
    simpa using hfin
end Go.PM

namespace Go.PM
open Go.Proofs
section
variable {P : Program} {G : Globs} {E : Amb} {A : Nat → Prop} {σ : PState} {a : Act} {w : World} {I : List Int}
/-- The names of what is handed to a function are different. -/
theorem PCalls.nd {f : FuncId} {args : List PV} {Hin : Heap} {R : PV → Heap → Prop} (h : (names Hin).Nodup → PCalls P G f args Hin R) : PCalls P G f args Hin R :=
  fun w A F vals h1 h2 h3 => h h3 w A F vals h1 h2 h3
theorem W_nd {c : Code} {K : Exit → PState → Prop} (h : (names σ.heap).Nodup → W P G I c σ K) : W P G I c σ K :=
  fun E hE A a w hs => h hs.nodup E hE A a w hs
/-- A call to which the objects Hin are handed, wherever they stand. -/
theorem pcall_mid {fn : FuncId} {args : List PV} {R : PV → Heap → Prop} {d : Option Tmp} {K : PState → Prop} (front Hin back : Heap) (he : σ.heap = front ++ (Hin ++ back)) (hc : PCalls P G fn args Hin R)
    (hk : ∀ res Hout, R res Hout → K (PState.put ⟨σ.frame, front ++ (Hout ++ back)⟩ d res)) : @pcallI false P G σ d fn args ⟨K⟩ := by
  intro E A a w vals hs hsz hvals
  have nd : (names σ.heap).Nodup := hs.nodup
  rw [he] at nd
  simp only [names, List.map_append] at nd
  obtain ⟨n1, n2, n3⟩ := List.nodup_append.1 nd
  obtain ⟨n4, n5, n6⟩ := List.nodup_append.1 n2
  have hin : ∀ x ∈ Hin, x ∈ σ.heap := fun x hx => by rw [he]; exact List.mem_append_right _ (List.mem_append_left _ hx)
  have hrest : ∀ x ∈ front ++ back, x ∈ σ.heap ∧ x.1 ∉ names Hin := fun x hx => by
    rw [he]
    rcases List.mem_append.1 hx with h | h
    · exact ⟨List.mem_append_left _ h, fun hn => n3 _ (List.mem_map.2 ⟨_, h, rfl⟩) _ (List.mem_append_left _ hn) rfl⟩
    · exact ⟨List.mem_append_right _ (List.mem_append_right _ h), fun hn => n6 _ hn _ (List.mem_map.2 ⟨_, h, rfl⟩) rfl⟩
  have hrn : (names (front ++ back)).Nodup := by
    simp only [names, List.map_append]
    exact List.nodup_append.2 ⟨n1, n5, fun x hx y hy => n3 x hx y (List.mem_append_right _ hy)⟩
  refine (hc w A (names σ.heap ++ E.F) vals hs.lt hs.globs n4 (fun n o h => hs.objs n o (hin _ h)) (fun n o h b hb => ⟨(hs.own n o (hin _ h) b hb).1, (hs.own n o (hin _ h) b hb).2.1⟩) hsz hvals).mono ?_
  rintro e w' ⟨v, A', res, Hout, rfl, hR, hr, hs'⟩
  obtain ⟨hdis, hsim⟩ := hs.calledI (fun n h => List.mem_append.2 h) hin hrest hrn hs'
  have hperm : (front ++ (Hout ++ back)).Perm (Hout ++ (front ++ back)) := by
    rw [← List.append_assoc, ← List.append_assoc]
    exact List.Perm.append_right _ List.perm_append_comm
  have hsim2 : Sim G E A' ⟨σ.frame, front ++ (Hout ++ back)⟩ a w' := hsim.sub ⟨fun x hx => hperm.mem_iff.1 hx, (List.Perm.nodup_iff (List.Perm.map _ hperm)).2 hsim.nodup⟩
  exact ⟨v, _, A', rfl, hk res Hout hR, hsim2.put d hr, fun h => Bool.noConfusion h⟩
/-- What comes back is seen in another way. -/
theorem PCalls.wxs {f : FuncId} {args : List PV} {Hin : Heap} {R R' : PV → Heap → Prop} (h : PCalls P G f args Hin R)
    (hr : ∀ res H, R res H → Wxs G (names Hin) ⟨[res], H⟩ (fun τ => ∃ res', τ.frame = [res'] ∧ R' res' τ.heap)) : PCalls P G f args Hin R' := by
  intro w A F vals h1 h2 h3 h4 h5 h6 h7
  refine (h w A F vals h1 h2 h3 h4 h5 h6 h7).mono ?_
  rintro e w' ⟨v, A', res, Hout, he, hR, hrep, hs⟩
  have hs2 : Sim G ⟨w, A, Hin.map (·.1), F⟩ A' ⟨[res], Hout⟩ ⟨#[v], []⟩ w' :=
    ⟨hs.ext, hs.lt, hs.a0, hs.a1, hs.globs, hs.nodup, hs.objs, hs.own, hs.neg, rfl, rfl, fun i p hp => by
      match i, hp with
      | 0, hp => cases hp; exact ⟨v, rfl, hrep⟩⟩
  obtain ⟨A2, τ, ⟨res', hf, hR'⟩, hs3⟩ := hr _ _ hR _ rfl _ _ _ hs2
  obtain ⟨v', hv', hrep'⟩ := hs3.frame 0 res' (by rw [hf]; rfl)
  cases hv'
  exact ⟨_, A2, res', τ.heap, he, hR', hrep', hs3.bare⟩
end
/-- An end of a link. -/
structure LE where
  win : Nat
  key : UInt64
  wait : List (List UInt8)
  acked : Nat
  got : Nat
  held : List (Nat × List UInt8)
  owing : Bool
  forged : Nat
@[reducible] def entsP (l : List (Nat × List UInt8)) : List PV := l.map fun x => .ent (pint .i64 x.1) (pl x.2)
/-- An end in memory. -/
@[reducible] def endO (e w m : Int) (s : LE) : Heap :=
  [(e, ⟨65, false, 0, [pint .i64 s.win, pq s.key, .row w 1 s.wait.length, pint .i64 s.acked, pint .i64 s.got, .mp m, pbool s.owing, pint .i64 s.forged]⟩), (w, ⟨33, true, 1, s.wait.map pl⟩), (m, ⟨63, false, 0, entsP s.held⟩)]
@[reducible] def IsEnd (e : Int) (s : LE) (H : Heap) : Prop := ∃ w m, H = endO e w m s
theorem end_nd {e w m : Int} {s : LE} (h : (names (endO e w m s)).Nodup) : (e = w) = False ∧ (w = e) = False ∧ (e = m) = False ∧ (m = e) = False ∧ (w = m) = False ∧ (m = w) = False := by
  simp only [names, List.map_cons, List.map_nil, List.nodup_cons, List.mem_cons, List.not_mem_nil, or_false, not_or] at h
  exact ⟨eq_false h.1.1, eq_false fun k => h.1.1 k.symm, eq_false h.1.2, eq_false fun k => h.1.2 k.symm, eq_false h.2.1, eq_false fun k => h.2.1 k.symm⟩
attribute [local irreducible] W PCalls pcall pcallI WL
/-- A message is sent. -/
def sendL (s : LE) (b : List UInt8) : Int × LE := if 65536 < b.length ∨ 1000 ≤ s.wait.length then (4, s) else (0, { s with wait := s.wait ++ [b] })
set_option maxRecDepth 100000 in
set_option maxHeartbeats 8000000 in
theorem send_c (G : Globs) (e : Int) (s : LE) (b : List UInt8) (hb : b.length ≤ 4294900000) (hw : s.wait.length ≤ 4294900000) (Hin : Heap) (hH : IsEnd e s Hin) :
    PCalls Try.prog G 11 [.ptr e 0, pl b] Hin (fun res H => res = pint .i64 (sendL s b).1 ∧ IsEnd e (sendL s b).2 H) := by
  obtain ⟨w, m, rfl⟩ := hH
  refine PCalls.nd fun nd => ?_
  have hM := end_nd nd
  have c1 := clone_c G b (by omega)
  by_cases hx : 65536 < b.length ∨ 1000 ≤ s.wait.length
  · rw [sendL, if_pos hx]
    (refine PCalls_f Try.func11 rfl Try.ntmps11 Try.results11 (by simp) fun fin hfin => ?_; have hnm : True := trivial; simp (maxSteps := 2000000) (disch := omega) only [evb, evd, pbuiltin, constPV, pnck, seqK, blockK, scopeK, pbin, pun, ppick, plen, piaddr, pindex, pfield, pslice, pbound, pconv, pelems, pextract, pmm, PV.mem?, PV.one, PV.cells, pageq, peqs, peq1, pmakes, pstore, pbytes, pmark, psrc, pkey, pnile, pcap, pgrow, List.set, Value.cells, ↓popG_eq, ↓pop.eq_1, ↓List.getElem?_map, ↓List.getElem?_cons_zero, ↓List.getElem?_cons_succ, Value.oneCell', Nat.reduceAdd, Nat.reduceMul, Nat.reduceSub, Nat.reduceLeDiff, Nat.reduceEqDiff, ↓reduceIte, ne_eq, reduceCtorEq, forall_const, exists_and_left, exists_eq_left', eq_self, Nat.reduceLT, Int.reduceLT, Int.reduceLE, Int.reduceToNat, Int.reduceAdd, Int.reduceSub, Int.reduceNeg, hnm, Try.tf0, Try.tf1, Try.tf2, Try.tf3, Try.tf4, Try.tf5, Try.tf28, Try.tf33, Try.tf34, Try.tf35, Try.tf65, Try.teq79, Try.call32])
    repeat' (first
    | (with_reducible apply W_seq_k; intro nx hnx)
    | (with_reducible first | apply W_block | apply W_scope)
    | (with_reducible refine W_prune 19 ?_; simp only [prb, Nat.reducePow, Nat.reduceDiv, Nat.reduceMod, Nat.reduceBEq]; first | (with_reducible apply W_region_l) | with_reducible refine W_region_draw (id := 3) 3 (.op 0 true (.op 1 true (.op 2 true (.op 3 true (.op 4 true (.op 5 true (.op 6 true (.op 7 true (.op 8 false (.op 9 true (.op 10 true (.op 11 false (.done))))))))))))) (by kernel_rfl) ?_)
    | ((first | (with_reducible apply WL_op; intro nx hnx) | with_reducible refine Ev_out ?_ | (with_reducible apply popsD_op; intro nx hnx) | (with_reducible refine popsD_alt ?_ ?_; intro nx hnx) | (with_reducible refine pfresh_k hnm fun nm hnm => ?_; (try simp only [fmb] at hnm)) | (with_reducible refine pborn_mu hnm fun nm hnm => ?_; (try simp only [fmb] at hnm))); try (simp (maxSteps := 2000000) (disch := omega) only [evb, evd, pbuiltin, constPV, pnck, seqK, blockK, scopeK, pbin, pun, ppick, plen, piaddr, pindex, pfield, pslice, pbound, pconv, pelems, pextract, pmm, PV.mem?, PV.one, PV.cells, pageq, peqs, peq1, pmakes, pstore, pbytes, pmark, psrc, pkey, pnile, pcap, pgrow, List.set, Value.cells, ↓popG_eq, ↓pop.eq_1, ↓List.getElem?_map, ↓List.getElem?_cons_zero, ↓List.getElem?_cons_succ, Value.oneCell', Nat.reduceAdd, Nat.reduceMul, Nat.reduceSub, Nat.reduceLeDiff, Nat.reduceEqDiff, ↓reduceIte, ne_eq, reduceCtorEq, forall_const, exists_and_left, exists_eq_left', eq_self, Nat.reduceLT, Int.reduceLT, Int.reduceLE, Int.reduceToNat, Int.reduceAdd, Int.reduceSub, Int.reduceNeg, hnm, Try.tf0, Try.tf1, Try.tf2, Try.tf3, Try.tf4, Try.tf5, Try.tf28, Try.tf33, Try.tf34, Try.tf35, Try.tf65, Try.teq79, Try.call32, hM]); repeat (refine And.intro (by omega) ?_))
    | ((with_reducible first | apply WL_nil | apply W_label | apply W_skip | apply W_exit | apply W_ret | apply popsD_done); try simp only [seqK, blockK, scopeK, ↓reduceIte, Nat.reduceEqDiff])
    | with_reducible exact popsD_stop
    | (with_reducible apply pguard_intro <;> (intro hc; (try simp only [hcb, reduceCtorEq, forall_const, ne_eq] at hc); first | (exfalso; omega) | (exfalso; exact hc trivial) | refine Ev_in ?_))
    | (with_reducible apply W_cond_k; intro _ _ ea eb; (simp only [condK, cob, opnd, constPV, Nat.reduceEqDiff, Nat.reduceLT, ↓reduceIte, hcb, reduceCtorEq, forall_const, ne_eq]); subst ea eb; first | (refine ⟨fun hc => ?_, fun hc => ?_⟩ <;> first | (exfalso; omega) | (exfalso; exact hc trivial) | skip) | skip)
    | (with_reducible apply hnx; clear hnx nx)
    | (with_reducible refine And.intro (by omega) ?_)
    | (with_reducible refine And.intro ?_ ?_)
    | (clear hnx nx; with_reducible apply hnx; clear hnx nx)
    | (clear hnx nx; clear hnx nx; with_reducible apply hnx; clear hnx nx)
    | (clear hnx nx; clear hnx nx; clear hnx nx; with_reducible apply hnx; clear hnx nx))
    all_goals first
      | (exfalso
         omega)
      | (refine hfin _ _ (Fin_ret1 rfl (Sub_refl nd) ?_); simp only [List.getD_cons_zero, List.getD_cons_succ, fr_getD_cons, fr_getD_nil, Nat.reduceEqDiff, Nat.reduceLT, ↓reduceIte]
         exact ⟨by trivial, _, _, rfl⟩)
  · rw [sendL, if_neg hx]
    (refine PCalls_f Try.func11 rfl Try.ntmps11 Try.results11 (by simp) fun fin hfin => ?_; have hnm : True := trivial; simp (maxSteps := 2000000) (disch := omega) only [evb, evd, pbuiltin, constPV, pnck, seqK, blockK, scopeK, pbin, pun, ppick, plen, piaddr, pindex, pfield, pslice, pbound, pconv, pelems, pextract, pmm, PV.mem?, PV.one, PV.cells, pageq, peqs, peq1, pmakes, pstore, pbytes, pmark, psrc, pkey, pnile, pcap, pgrow, List.set, Value.cells, ↓popG_eq, ↓pop.eq_1, ↓List.getElem?_map, ↓List.getElem?_cons_zero, ↓List.getElem?_cons_succ, Value.oneCell', Nat.reduceAdd, Nat.reduceMul, Nat.reduceSub, Nat.reduceLeDiff, Nat.reduceEqDiff, ↓reduceIte, ne_eq, reduceCtorEq, forall_const, exists_and_left, exists_eq_left', eq_self, Nat.reduceLT, Int.reduceLT, Int.reduceLE, Int.reduceToNat, Int.reduceAdd, Int.reduceSub, Int.reduceNeg, hnm, Try.tf0, Try.tf1, Try.tf2, Try.tf3, Try.tf4, Try.tf5, Try.tf28, Try.tf33, Try.tf34, Try.tf35, Try.tf65, Try.teq79, Try.call32])
    repeat' (first
    | (with_reducible apply W_seq_k; intro nx hnx)
    | (with_reducible first | apply W_block | apply W_scope)
    | (with_reducible refine W_prune 19 ?_; simp only [prb, Nat.reducePow, Nat.reduceDiv, Nat.reduceMod, Nat.reduceBEq]; first | (with_reducible apply W_region_l) | with_reducible refine W_region_draw (id := 3) 3 (.op 0 true (.op 1 true (.op 2 true (.op 3 true (.op 4 true (.op 5 true (.op 6 true (.op 7 true (.op 8 false (.op 9 true (.op 10 true (.op 11 false (.done))))))))))))) (by kernel_rfl) ?_)
    | (with_reducible refine WL_born (by simp) rfl (by simp) ?_; simp only [elemsOf, nl, List.map_cons, List.map_nil, Nat.reduceEqDiff, ↓reduceIte, List.take_succ_cons, List.take_zero, List.range_succ, List.range_zero, List.nil_append, List.cons_append, List.map_append, List.drop_succ_cons, List.drop_zero, Nat.reduceMul, Nat.zero_mul, Nat.one_mul, Nat.reduceAdd])
    | ((first | (with_reducible apply WL_op; intro nx hnx) | with_reducible refine Ev_out ?_ | (with_reducible apply popsD_op; intro nx hnx) | (with_reducible refine popsD_alt ?_ ?_; intro nx hnx) | (with_reducible refine pfresh_k hnm fun nm hnm => ?_; (try simp only [fmb] at hnm)) | (with_reducible refine pborn_im ?_; simp only [elemsOf, nl, List.map_cons, List.map_nil, Nat.reduceEqDiff, ↓reduceIte, List.take_succ_cons, List.take_zero, List.range_succ, List.range_zero, List.nil_append, List.cons_append, List.map_append, List.drop_succ_cons, List.drop_zero, Nat.reduceMul, Nat.zero_mul, Nat.one_mul, Nat.reduceAdd])); try (simp (maxSteps := 2000000) (disch := omega) only [evb, evd, pbuiltin, constPV, pnck, seqK, blockK, scopeK, pbin, pun, ppick, plen, piaddr, pindex, pfield, pslice, pbound, pconv, pelems, pextract, pmm, PV.mem?, PV.one, PV.cells, pageq, peqs, peq1, pmakes, pstore, pbytes, pmark, psrc, pkey, pnile, pcap, pgrow, List.set, Value.cells, ↓popG_eq, ↓pop.eq_1, ↓List.getElem?_map, ↓List.getElem?_cons_zero, ↓List.getElem?_cons_succ, Value.oneCell', Nat.reduceAdd, Nat.reduceMul, Nat.reduceSub, Nat.reduceLeDiff, Nat.reduceEqDiff, ↓reduceIte, ne_eq, reduceCtorEq, forall_const, exists_and_left, exists_eq_left', eq_self, Nat.reduceLT, Int.reduceLT, Int.reduceLE, Int.reduceToNat, Int.reduceAdd, Int.reduceSub, Int.reduceNeg, hnm, Try.tf0, Try.tf1, Try.tf2, Try.tf3, Try.tf4, Try.tf5, Try.tf28, Try.tf33, Try.tf34, Try.tf35, Try.tf65, Try.teq79, Try.call32, hM]); repeat (refine And.intro (by omega) ?_))
    | ((with_reducible first | apply WL_nil | apply W_label | apply W_skip | apply W_exit | apply W_ret | apply popsD_done); try simp only [seqK, blockK, scopeK, ↓reduceIte, Nat.reduceEqDiff])
    | with_reducible exact popsD_stop
    | (with_reducible apply pguard_intro <;> (intro hc; (try simp only [hcb, reduceCtorEq, forall_const, ne_eq] at hc); first | (exfalso; omega) | (exfalso; exact hc trivial) | refine Ev_in ?_))
    | (with_reducible apply W_cond_k; intro _ _ ea eb; (simp only [condK, cob, opnd, constPV, Nat.reduceEqDiff, Nat.reduceLT, ↓reduceIte, hcb, reduceCtorEq, forall_const, ne_eq]); subst ea eb; first | (refine ⟨fun hc => ?_, fun hc => ?_⟩ <;> first | (exfalso; omega) | (exfalso; exact hc trivial) | skip) | skip)
    | (with_reducible apply hnx; clear hnx nx)
    | (with_reducible refine And.intro (by omega) ?_)
    | (with_reducible refine And.intro ?_ ?_)
    | (with_reducible refine pcall_k (c1) ?_; rintro _ _ ⟨rfl, rfl⟩ -; refine Ev_in ?_)
    | (clear hnx nx; with_reducible apply hnx; clear hnx nx)
    | (clear hnx nx; clear hnx nx; with_reducible apply hnx; clear hnx nx)
    | (clear hnx nx; clear hnx nx; clear hnx nx; with_reducible apply hnx; clear hnx nx))
    all_goals first
      | (exfalso
         omega)
      | skip
    refine hfin _ _ (Fin_ret1 rfl (H := endO e nm m { s with wait := s.wait ++ [b] }) ⟨?_, ?_⟩ ⟨by simp only [fr_getD_cons, Nat.reduceEqDiff, Nat.reduceLT, ↓reduceIte], _, _, rfl⟩)
    · intro x hx
      simp only [List.mem_cons, List.not_mem_nil, or_false] at hx ⊢
      rcases hx with rfl | rfl | rfl
      · exact .inr (.inl (by simp))
      · exact .inl (by simp [flat, PV.cells])
      · exact .inr (.inr rfl)
    · simp [names, hM, hnm]
set_option maxRecDepth 100000 in
set_option maxHeartbeats 8000000 in
theorem waiting_c (G : Globs) (e : Int) (s : LE) (Hin : Heap) (hH : IsEnd e s Hin) :
    PCalls Try.prog G 21 [.ptr e 0] Hin (fun res H => res = pint .i64 s.wait.length ∧ H = Hin) := by
  obtain ⟨w, m, rfl⟩ := hH
  refine PCalls.nd fun nd => ?_
  have hM := end_nd nd
  (refine PCalls_f Try.func21 rfl Try.ntmps21 Try.results21 (by simp) fun fin hfin => ?_; have hnm : True := trivial; simp (maxSteps := 2000000) (disch := omega) only [evb, evd, pbuiltin, constPV, pnck, seqK, blockK, scopeK, pbin, pun, ppick, plen, piaddr, pindex, pfield, pslice, pbound, pconv, pelems, pextract, pmm, PV.mem?, PV.one, PV.cells, pageq, peqs, peq1, pmakes, pstore, pbytes, pmark, psrc, pkey, pnile, pcap, pgrow, List.set, Value.cells, ↓popG_eq, ↓pop.eq_1, ↓List.getElem?_map, ↓List.getElem?_cons_zero, ↓List.getElem?_cons_succ, Value.oneCell', Nat.reduceAdd, Nat.reduceMul, Nat.reduceSub, Nat.reduceLeDiff, Nat.reduceEqDiff, ↓reduceIte, ne_eq, reduceCtorEq, forall_const, exists_and_left, exists_eq_left', eq_self, Nat.reduceLT, Int.reduceLT, Int.reduceLE, Int.reduceToNat, Int.reduceAdd, Int.reduceSub, Int.reduceNeg, hnm, Try.tf0, Try.tf2, Try.tf3, Try.tf5, Try.tf28, Try.tf33, Try.tf35, Try.tf65, Try.teq79])
  repeat' (first
    | (with_reducible apply W_seq_k; intro nx hnx)
    | (with_reducible first | apply W_block | apply W_scope)
    | (with_reducible refine W_prune 5 ?_; simp only [prb, Nat.reducePow, Nat.reduceDiv, Nat.reduceMod, Nat.reduceBEq]; with_reducible apply W_region_l)
    | ((first | (with_reducible apply WL_op; intro nx hnx) | with_reducible refine Ev_out ?_); try (simp (maxSteps := 2000000) (disch := omega) only [evb, evd, pbuiltin, constPV, pnck, seqK, blockK, scopeK, pbin, pun, ppick, plen, piaddr, pindex, pfield, pslice, pbound, pconv, pelems, pextract, pmm, PV.mem?, PV.one, PV.cells, pageq, peqs, peq1, pmakes, pstore, pbytes, pmark, psrc, pkey, pnile, pcap, pgrow, List.set, Value.cells, ↓popG_eq, ↓pop.eq_1, ↓List.getElem?_map, ↓List.getElem?_cons_zero, ↓List.getElem?_cons_succ, Value.oneCell', Nat.reduceAdd, Nat.reduceMul, Nat.reduceSub, Nat.reduceLeDiff, Nat.reduceEqDiff, ↓reduceIte, ne_eq, reduceCtorEq, forall_const, exists_and_left, exists_eq_left', eq_self, Nat.reduceLT, Int.reduceLT, Int.reduceLE, Int.reduceToNat, Int.reduceAdd, Int.reduceSub, Int.reduceNeg, hnm, Try.tf0, Try.tf2, Try.tf3, Try.tf5, Try.tf28, Try.tf33, Try.tf35, Try.tf65, Try.teq79, hM]); repeat (refine And.intro (by omega) ?_))
    | ((with_reducible first | apply WL_nil | apply W_label | apply W_skip | apply W_exit | apply W_ret); try simp only [seqK, blockK, scopeK, ↓reduceIte, Nat.reduceEqDiff])
    | (with_reducible apply W_cond_k; intro _ _ ea eb; (simp only [condK, cob, opnd, constPV, Nat.reduceEqDiff, Nat.reduceLT, ↓reduceIte, hcb, reduceCtorEq, forall_const, ne_eq]); subst ea eb; first | (refine ⟨fun hc => ?_, fun hc => ?_⟩ <;> first | (exfalso; omega) | (exfalso; exact hc trivial) | skip) | skip)
    | (with_reducible apply hnx; clear hnx nx)
    | (with_reducible refine And.intro (by omega) ?_)
    | (with_reducible refine And.intro ?_ ?_)
    | (clear hnx nx; with_reducible apply hnx; clear hnx nx)
    | (clear hnx nx; clear hnx nx; with_reducible apply hnx; clear hnx nx)
    | (clear hnx nx; clear hnx nx; clear hnx nx; with_reducible apply hnx; clear hnx nx))
  refine hfin _ _ (Fin_ret1 rfl (Sub_refl nd) ?_); simp only [List.getD_cons_zero, List.getD_cons_succ, fr_getD_cons, fr_getD_nil, Nat.reduceEqDiff, Nat.reduceLT, ↓reduceIte]
  exact ⟨by trivial, by trivial⟩
set_option maxRecDepth 100000 in
set_option maxHeartbeats 8000000 in
theorem forged_c (G : Globs) (e : Int) (s : LE) (Hin : Heap) (hH : IsEnd e s Hin) :
    PCalls Try.prog G 22 [.ptr e 0] Hin (fun res H => res = pint .i64 s.forged ∧ H = Hin) := by
  obtain ⟨w, m, rfl⟩ := hH
  refine PCalls.nd fun nd => ?_
  have hM := end_nd nd
  (refine PCalls_f Try.func22 rfl Try.ntmps22 Try.results22 (by simp) fun fin hfin => ?_; have hnm : True := trivial; simp (maxSteps := 2000000) (disch := omega) only [evb, evd, pbuiltin, constPV, pnck, seqK, blockK, scopeK, pbin, pun, ppick, plen, piaddr, pindex, pfield, pslice, pbound, pconv, pelems, pextract, pmm, PV.mem?, PV.one, PV.cells, pageq, peqs, peq1, pmakes, pstore, pbytes, pmark, psrc, pkey, pnile, pcap, pgrow, List.set, Value.cells, ↓popG_eq, ↓pop.eq_1, ↓List.getElem?_map, ↓List.getElem?_cons_zero, ↓List.getElem?_cons_succ, Value.oneCell', Nat.reduceAdd, Nat.reduceMul, Nat.reduceSub, Nat.reduceLeDiff, Nat.reduceEqDiff, ↓reduceIte, ne_eq, reduceCtorEq, forall_const, exists_and_left, exists_eq_left', eq_self, Nat.reduceLT, Int.reduceLT, Int.reduceLE, Int.reduceToNat, Int.reduceAdd, Int.reduceSub, Int.reduceNeg, hnm, Try.tf0, Try.tf3, Try.tf7, Try.tf35, Try.tf65, Try.teq79])
  repeat' (first
    | (with_reducible apply W_seq_k; intro nx hnx)
    | (with_reducible first | apply W_block | apply W_scope)
    | (with_reducible refine W_prune 5 ?_; simp only [prb, Nat.reducePow, Nat.reduceDiv, Nat.reduceMod, Nat.reduceBEq]; with_reducible apply W_region_l)
    | ((first | (with_reducible apply WL_op; intro nx hnx) | with_reducible refine Ev_out ?_); try (simp (maxSteps := 2000000) (disch := omega) only [evb, evd, pbuiltin, constPV, pnck, seqK, blockK, scopeK, pbin, pun, ppick, plen, piaddr, pindex, pfield, pslice, pbound, pconv, pelems, pextract, pmm, PV.mem?, PV.one, PV.cells, pageq, peqs, peq1, pmakes, pstore, pbytes, pmark, psrc, pkey, pnile, pcap, pgrow, List.set, Value.cells, ↓popG_eq, ↓pop.eq_1, ↓List.getElem?_map, ↓List.getElem?_cons_zero, ↓List.getElem?_cons_succ, Value.oneCell', Nat.reduceAdd, Nat.reduceMul, Nat.reduceSub, Nat.reduceLeDiff, Nat.reduceEqDiff, ↓reduceIte, ne_eq, reduceCtorEq, forall_const, exists_and_left, exists_eq_left', eq_self, Nat.reduceLT, Int.reduceLT, Int.reduceLE, Int.reduceToNat, Int.reduceAdd, Int.reduceSub, Int.reduceNeg, hnm, Try.tf0, Try.tf3, Try.tf7, Try.tf35, Try.tf65, Try.teq79, hM]); repeat (refine And.intro (by omega) ?_))
    | ((with_reducible first | apply WL_nil | apply W_label | apply W_skip | apply W_exit | apply W_ret); try simp only [seqK, blockK, scopeK, ↓reduceIte, Nat.reduceEqDiff])
    | (with_reducible apply W_cond_k; intro _ _ ea eb; (simp only [condK, cob, opnd, constPV, Nat.reduceEqDiff, Nat.reduceLT, ↓reduceIte, hcb, reduceCtorEq, forall_const, ne_eq]); subst ea eb; first | (refine ⟨fun hc => ?_, fun hc => ?_⟩ <;> first | (exfalso; omega) | (exfalso; exact hc trivial) | skip) | skip)
    | (with_reducible apply hnx; clear hnx nx)
    | (with_reducible refine And.intro (by omega) ?_)
    | (with_reducible refine And.intro ?_ ?_)
    | (clear hnx nx; with_reducible apply hnx; clear hnx nx)
    | (clear hnx nx; clear hnx nx; with_reducible apply hnx; clear hnx nx)
    | (clear hnx nx; clear hnx nx; clear hnx nx; with_reducible apply hnx; clear hnx nx))
  refine hfin _ _ (Fin_ret1 rfl (Sub_refl nd) ?_); simp only [List.getD_cons_zero, List.getD_cons_succ, fr_getD_cons, fr_getD_nil, Nat.reduceEqDiff, Nat.reduceLT, ↓reduceIte]
  exact ⟨by trivial, by trivial⟩
/-- A new end. -/
def newL (win : Nat) (key : UInt64) : LE := ⟨win, key, [], 0, 0, [], false, 0⟩
/-- An end comes back, or none. -/
@[reducible] def NewR (win : Int) (key : UInt64) (res : PV) (H : Heap) : Prop :=
  (¬ (1 ≤ win ∧ win ≤ 16) ∧ res = .tuple [.val (.pointer none), pint .i64 1] ∧ H = []) ∨ (1 ≤ win ∧ win ≤ 16 ∧ ∃ e, res = .tuple [.ptr e 0, pint .i64 0] ∧ IsEnd e (newL win.toNat key) H)
set_option maxRecDepth 100000 in
set_option maxHeartbeats 8000000 in
theorem new_c (G : Globs) (win : Int) (key : UInt64) : PCalls Try.prog G 28 [pint .i64 win, pq key] [] (NewR win key) := by
  have h0 : PCalls Try.prog G 28 [pint .i64 win, pq key] [] (fun res H => (¬ (1 ≤ win ∧ win ≤ 16) ∧ res = .tuple [.val (.pointer none), pint .i64 1] ∧ H = []) ∨
      (1 ≤ win ∧ win ≤ 16 ∧ ∃ e m : Int, (¬ e = m ∧ ¬ m = e) ∧ res = .tuple [.ptr e 0, pint .i64 0] ∧ H = [(e, ⟨65, false, 0, [pint .i64 win, pq key, pnil, pint .i64 0, pint .i64 0, .mp m, pbool false, pint .i64 0]⟩), (m, ⟨63, false, 0, []⟩)])) := by
    (refine PCalls_f Try.func28 rfl Try.ntmps28 Try.results28 (by simp) fun fin hfin => ?_; have hnm : True := trivial; simp (maxSteps := 2000000) (disch := omega) only [evb, evd, pbuiltin, constPV, pnck, seqK, blockK, scopeK, pbin, pun, ppick, plen, piaddr, pindex, pfield, pslice, pbound, pconv, pelems, pextract, pmm, PV.mem?, PV.one, PV.cells, pageq, peqs, peq1, pmakes, pstore, pbytes, pmark, psrc, pkey, pnile, pcap, pgrow, List.set, Value.cells, ↓popG_eq, ↓pop.eq_1, ↓List.getElem?_map, ↓List.getElem?_cons_zero, ↓List.getElem?_cons_succ, Value.oneCell', Nat.reduceAdd, Nat.reduceMul, Nat.reduceSub, Nat.reduceLeDiff, Nat.reduceEqDiff, ↓reduceIte, ne_eq, reduceCtorEq, forall_const, exists_and_left, exists_eq_left', eq_self, Nat.reduceLT, Int.reduceLT, Int.reduceLE, Int.reduceToNat, Int.reduceAdd, Int.reduceSub, Int.reduceNeg, hnm, Try.tf3, Try.tf4, Try.tf22, Try.tf34, Try.tf35, Try.tf63, Try.tf65, Try.teq79])
    repeat' (first
    | (with_reducible apply W_seq_k; intro nx hnx)
    | (with_reducible first | apply W_block | apply W_scope)
    | (with_reducible refine W_prune 51 ?_; simp only [prb, Nat.reducePow, Nat.reduceDiv, Nat.reduceMod, Nat.reduceBEq]; with_reducible apply W_region_l)
    | ((first | (with_reducible apply WL_op; intro nx hnx) | with_reducible refine Ev_out ?_ | (with_reducible refine pfresh_k hnm fun nm hnm => ?_; (try simp only [fmb] at hnm)) | (with_reducible refine pborn_mu hnm fun nm hnm => ?_; (try simp only [fmb] at hnm))); try (simp (maxSteps := 2000000) (disch := omega) only [evb, evd, pbuiltin, constPV, pnck, seqK, blockK, scopeK, pbin, pun, ppick, plen, piaddr, pindex, pfield, pslice, pbound, pconv, pelems, pextract, pmm, PV.mem?, PV.one, PV.cells, pageq, peqs, peq1, pmakes, pstore, pbytes, pmark, psrc, pkey, pnile, pcap, pgrow, List.set, Value.cells, ↓popG_eq, ↓pop.eq_1, ↓List.getElem?_map, ↓List.getElem?_cons_zero, ↓List.getElem?_cons_succ, Value.oneCell', Nat.reduceAdd, Nat.reduceMul, Nat.reduceSub, Nat.reduceLeDiff, Nat.reduceEqDiff, ↓reduceIte, ne_eq, reduceCtorEq, forall_const, exists_and_left, exists_eq_left', eq_self, Nat.reduceLT, Int.reduceLT, Int.reduceLE, Int.reduceToNat, Int.reduceAdd, Int.reduceSub, Int.reduceNeg, hnm, Try.tf3, Try.tf4, Try.tf22, Try.tf34, Try.tf35, Try.tf63, Try.tf65, Try.teq79]); repeat (refine And.intro (by omega) ?_))
    | ((with_reducible first | apply WL_nil | apply W_label | apply W_skip | apply W_exit | apply W_ret); try simp only [seqK, blockK, scopeK, ↓reduceIte, Nat.reduceEqDiff])
    | (with_reducible apply pguard_intro <;> (intro hc; (try simp only [hcb, reduceCtorEq, forall_const, ne_eq] at hc); first | (exfalso; omega) | (exfalso; exact hc trivial) | refine Ev_in ?_))
    | (with_reducible apply W_cond_k; intro _ _ ea eb; (simp only [condK, cob, opnd, constPV, Nat.reduceEqDiff, Nat.reduceLT, ↓reduceIte, hcb, reduceCtorEq, forall_const, ne_eq]); subst ea eb; first | (refine ⟨fun hc => ?_, fun hc => ?_⟩ <;> first | (exfalso; omega) | (exfalso; exact hc trivial) | skip) | skip)
    | (with_reducible apply hnx; clear hnx nx)
    | (with_reducible refine And.intro (by omega) ?_)
    | (with_reducible refine And.intro ?_ ?_)
    | (clear hnx nx; with_reducible apply hnx; clear hnx nx)
    | (clear hnx nx; clear hnx nx; with_reducible apply hnx; clear hnx nx)
    | (clear hnx nx; clear hnx nx; clear hnx nx; with_reducible apply hnx; clear hnx nx))
    all_goals first
      | (refine hfin _ _ (Fin_ret2 rfl rfl (Sub_nil _) ?_); simp only [List.getD_cons_zero, List.getD_cons_succ, fr_getD_cons, fr_getD_nil, Nat.reduceEqDiff, Nat.reduceLT, ↓reduceIte]
         exact .inl ⟨by omega, by trivial, by trivial⟩)
      | (rename_i m hm
         refine hfin _ _ (Fin_ret2 rfl rfl (Sub_refl (by simp [names, hnm])) (.inr ⟨by omega, by omega, nm, _, ⟨of_eq_false hnm.1, of_eq_false hnm.2⟩, ?_, rfl⟩))
         simp only [fr_getD_cons, Nat.reduceEqDiff, Nat.reduceLT, ↓reduceIte])
  refine h0.wxs ?_
  rintro res H (⟨h1, rfl, rfl⟩ | ⟨h1, h2, e, m, hem, rfl, rfl⟩)
  · exact Wxs.of (Wx.refl _) ⟨_, rfl, .inl ⟨h1, rfl, rfl⟩⟩
  · refine Wxs.adopt_c e 2 33 1 (o := ⟨65, false, 0, [pint .i64 win, pq key, pnil, pint .i64 0, pint .i64 0, .mp m, pbool false, pint .i64 0]⟩) (by simp [look]) rfl fun w hw => Wxs.of (τ := ⟨[.tuple [.ptr e 0, pint .i64 0]], endO e w m (newL win.toNat key)⟩) (Wx.of_wk ⟨?_, ?_⟩) ⟨_, rfl, .inr ⟨h1, h2, e, rfl, w, m, rfl⟩⟩
    · exact ⟨.inr rfl, trivial⟩
    · simp only [names, upd, List.map_cons, List.map_nil, if_true] at hw ⊢
      simp only [List.mem_cons, List.not_mem_nil, or_false, not_or] at hw
      refine ⟨?_, ?_⟩
      · intro x hx
        simp only [List.mem_cons, List.not_mem_nil, or_false] at hx ⊢
        rcases hx with rfl | rfl | rfl
        · exact .inr (.inl (by simp [newL, Int.toNat_of_nonneg (show 0 ≤ win by omega)]))
        · exact .inl rfl
        · exact .inr (.inr rfl)
      · simp only [names, List.map_cons, List.map_nil, List.nodup_cons, List.mem_cons, List.not_mem_nil, or_false, not_or, List.nodup_nil, and_true, not_false_eq_true]
        exact ⟨⟨fun h => hw.1 h.symm, hem.1⟩, hw.2⟩
end Go.PM

namespace Go.PM
open Go.Proofs
section
variable {P : Program} {G : Globs} {I : List Int}
theorem fr_one (p : PV) : fr 1 [(0, p)] = [p] := by unfold fr; rfl
theorem elems_all (xs : List PV) : elemsOf 1 xs xs.length = xs := by simp [elemsOf]
/-- A row that comes back is turned no more. -/
theorem Wxs_row {n : Int} {ty : TypeId} {xs : List PV} {H : Heap} {T : PState → Prop} (hn : n ∉ I) (hH : ∀ x ∈ H, x.1 ≠ n ∧ ∀ u ∈ x.2.cells, frz1 n xs u = u ∧ u.one = true) (hT : T ⟨[.list 1 xs], H⟩) :
    Wxs G I ⟨[.row n 1 xs.length], (n, ⟨ty, true, 1, xs⟩) :: H⟩ T := by
  have h1 := Wx_bornH (G := G) (I := I) (N := 1) (d := 0) (L := []) (n := n) (e := ty) (es := 1) (len := xs.length) (cells := xs) (H := H) hn (by omega) (by simp) hH
  rw [fr_one, fr_one, elems_all] at h1
  exact Wxs.of h1 hT
theorem end_frz {e w m n : Int} {s : LE} {xs : List PV} (h1 : ¬ n = e) (h2 : ¬ n = w) (h3 : ¬ n = m) : ∀ x ∈ endO e w m s, x.1 ≠ n ∧ ∀ u ∈ x.2.cells, frz1 n xs u = u ∧ u.one = true := by
  have k2 : ¬ w = n := fun h => h2 h.symm
  have k3 : ¬ m = n := fun h => h3 h.symm
  intro x hx
  simp only [List.mem_cons, List.not_mem_nil, or_false] at hx
  rcases hx with rfl | rfl | rfl
  · refine ⟨fun h => h1 h.symm, fun u hu => ?_⟩
    simp only [List.mem_cons, List.not_mem_nil, or_false] at hu
    rcases hu with rfl | rfl | rfl | rfl | rfl | rfl | rfl | rfl <;> simp [frz1, k2, PV.one, Value.oneCell']
  · refine ⟨k2, fun u hu => ?_⟩
    obtain ⟨b, _, rfl⟩ := List.mem_map.1 hu
    exact ⟨rfl, rfl⟩
  · refine ⟨k3, fun u hu => ?_⟩
    obtain ⟨b, _, rfl⟩ := List.mem_map.1 hu
    exact ⟨rfl, rfl⟩
end
/-- An entry is taken out. -/
def pull (k : Nat) : List (Nat × List UInt8) → Option (List UInt8 × List (Nat × List UInt8))
  | [] => none
  | x :: r => if x.1 = k then some (x.2, r) else (pull k r).map fun y => (y.1, x :: y.2)
theorem pull_none {k : Nat} : ∀ {h : List (Nat × List UInt8)} (i : Nat), pull k h = none → mfind (.int .i64 (k : Int)) (entsP h) i = some none
  | [], _, _ => rfl
  | x :: r, i, hp => by
    simp only [pull] at hp
    split at hp
    · cases hp
    · rename_i hx
      have hr : pull k r = none := by simpa using hp
      have hne : ((k : Int) == (x.1 : Int)) = false := by
        rw [beq_eq_false_iff_ne]
        intro h
        exact hx (by omega)
      simp only [entsP, List.map_cons, mfind, vsame, if_true, hne]
      exact pull_none (i + 1) hr
theorem pull_some {k : Nat} : ∀ {h : List (Nat × List UInt8)} {b : List UInt8} {h' : List (Nat × List UInt8)} (i : Nat), pull k h = some (b, h') →
    ∃ j, mfind (.int .i64 (k : Int)) (entsP h) i = some (some (i + j, pl b)) ∧ (entsP h).eraseIdx j = entsP h' ∧ h'.length + 1 = h.length ∧ j < h.length
  | [], _, _, _, hp => by cases hp
  | x :: r, b, h', i, hp => by
    simp only [pull] at hp
    split at hp
    · rename_i hx
      cases hp
      have hne : ((k : Int) == (x.1 : Int)) = true := by
        rw [beq_iff_eq]
        omega
      refine ⟨0, ?_, rfl, rfl, Nat.succ_pos _⟩
      simp only [entsP, List.map_cons, mfind, vsame, if_true, hne, Nat.add_zero]
    · rename_i hx
      cases hr : pull k r with
      | none => rw [hr] at hp; cases hp
      | some y =>
        rw [hr] at hp
        simp only [Option.map_some, Option.some.injEq, Prod.mk.injEq] at hp
        obtain ⟨rfl, rfl⟩ := hp
        obtain ⟨y1, y2⟩ := y
        have hne : ((k : Int) == (x.1 : Int)) = false := by
          rw [beq_eq_false_iff_ne]
          intro h
          exact hx (by omega)
        obtain ⟨j, h1, h2, h3, h4⟩ := pull_some (i + 1) hr
        refine ⟨j + 1, ?_, ?_, by simp [h3], by simp [h4]⟩
        · simp only [entsP, List.map_cons, mfind, vsame, if_true, hne]
          rw [h1, show i + 1 + j = i + (j + 1) by omega]
        · simp only [List.map_cons, List.eraseIdx_cons_succ, h2]
/-- What is delivered. -/
def delF : Nat → Nat → List (Nat × List UInt8) → List (List UInt8) × Nat × List (Nat × List UInt8)
  | 0, g, h => ([], g, h)
  | n + 1, g, h => match pull (g + 1) h with
    | none => ([], g, h)
    | some (b, h') => (b :: (delF n (g + 1) h').1, (delF n (g + 1) h').2)
def delL (s : LE) : List (List UInt8) × LE := ((delF s.held.length s.got s.held).1, { s with got := (delF s.held.length s.got s.held).2.1, held := (delF s.held.length s.got s.held).2.2 })
theorem delL_none {s : LE} (h : pull (s.got + 1) s.held = none) : delL s = ([], s) := by
  have e : delF s.held.length s.got s.held = ([], s.got, s.held) := by
    cases hn : s.held.length with
    | zero => rfl
    | succ n => simp only [delF, h]
  simp only [delL, e]
theorem delL_some {s : LE} {b : List UInt8} {h' : List (Nat × List UInt8)} (h : pull (s.got + 1) s.held = some (b, h')) :
    delL s = (b :: (delL { s with got := s.got + 1, held := h' }).1, (delL { s with got := s.got + 1, held := h' }).2) := by
  obtain ⟨j, _, _, h3, _⟩ := pull_some 0 h
  have e : delF s.held.length s.got s.held = (b :: (delF h'.length (s.got + 1) h').1, (delF h'.length (s.got + 1) h').2) := by
    rw [← h3]
    simp only [delF, h]
  simp only [delL, e]
attribute [local irreducible] W PCalls pcall pcallI WL
set_option maxRecDepth 100000 in
set_option maxHeartbeats 8000000 in
theorem deliver_r (G : Globs) (e w m : Int) (s : LE) (hh : s.held.length ≤ 4294900000) (hg : s.got + s.held.length ≤ 4611686018427387904) :
    PCalls Try.prog G 38 [.ptr e 0] (endO e w m s) (fun res H => ∃ n : Int, (¬ n = e ∧ ¬ n = w ∧ ¬ n = m) ∧ res = .row n 1 (delL s).1.length ∧ H = (n, ⟨33, true, 1, (delL s).1.map pl⟩) :: endO e w m (delL s).2) := by
  refine PCalls.nd fun nd => ?_
  have hM := end_nd nd
  (refine PCalls_f Try.func38 rfl Try.ntmps38 Try.results38 (by simp) fun fin hfin => ?_; have hnm : True := trivial; simp (maxSteps := 2000000) (disch := omega) only [evb, evd, pbuiltin, constPV, pnck, seqK, blockK, scopeK, pbin, pun, ppick, plen, piaddr, pindex, pfield, pslice, pbound, pconv, pelems, pextract, pmm, PV.mem?, PV.one, PV.cells, pageq, peqs, peq1, pmakes, pstore, pbytes, pmark, psrc, pkey, pnile, pcap, pgrow, List.set, Value.cells, ↓popG_eq, ↓pop.eq_1, ↓List.getElem?_map, ↓List.getElem?_cons_zero, ↓List.getElem?_cons_succ, Value.oneCell', Nat.reduceAdd, Nat.reduceMul, Nat.reduceSub, Nat.reduceLeDiff, Nat.reduceEqDiff, ↓reduceIte, ne_eq, reduceCtorEq, forall_const, exists_and_left, exists_eq_left', eq_self, Nat.reduceLT, Int.reduceLT, Int.reduceLE, Int.reduceToNat, Int.reduceAdd, Int.reduceSub, Int.reduceNeg, hnm, Try.tf0, Try.tf1, Try.tf3, Try.tf4, Try.tf5, Try.tf28, Try.tf33, Try.tf35, Try.tf63, Try.tf65, Try.tf73, Try.teq79])
  with_reducible apply W_seq_k
  intro nx hnx
  repeat' (first
    | (with_reducible first | apply W_block | apply W_scope)
    | (with_reducible refine W_prune 61 ?_; simp only [prb, Nat.reducePow, Nat.reduceDiv, Nat.reduceMod, Nat.reduceBEq]; first | (with_reducible apply W_region_l) | with_reducible refine W_region_draw (id := 2) 1 (.op 0 true (.op 1 true (.op 2 true (.op 3 true (.op 4 true (.op 5 true (.op 6 true (.op 7 true (.op 8 true (.op 9 true (.op 10 true (.op 11 true (.op 12 true (.op 13 true (.op 14 true (.done)))))))))))))))) (by kernel_rfl) ?_ | with_reducible refine W_region_draw (id := 6) 3 (.op 0 true (.op 1 true (.op 2 true (.op 3 true (.op 4 true (.op 5 true (.op 6 true (.op 7 true (.op 8 false (.done)))))))))) (by kernel_rfl) ?_)
    | ((first | (with_reducible apply WL_op; intro nx hnx) | with_reducible refine Ev_out ?_ | (with_reducible apply popsD_op; intro nx hnx) | (with_reducible refine popsD_alt ?_ ?_; intro nx hnx) | (with_reducible refine pfresh_k hnm fun nm hnm => ?_; (try simp only [fmb] at hnm)) | (with_reducible refine pborn_mu hnm fun nm hnm => ?_; (try simp only [fmb] at hnm))); try (simp (maxSteps := 2000000) (disch := omega) only [evb, evd, pbuiltin, constPV, pnck, seqK, blockK, scopeK, pbin, pun, ppick, plen, piaddr, pindex, pfield, pslice, pbound, pconv, pelems, pextract, pmm, PV.mem?, PV.one, PV.cells, pageq, peqs, peq1, pmakes, pstore, pbytes, pmark, psrc, pkey, pnile, pcap, pgrow, List.set, Value.cells, ↓popG_eq, ↓pop.eq_1, ↓List.getElem?_map, ↓List.getElem?_cons_zero, ↓List.getElem?_cons_succ, Value.oneCell', Nat.reduceAdd, Nat.reduceMul, Nat.reduceSub, Nat.reduceLeDiff, Nat.reduceEqDiff, ↓reduceIte, ne_eq, reduceCtorEq, forall_const, exists_and_left, exists_eq_left', eq_self, Nat.reduceLT, Int.reduceLT, Int.reduceLE, Int.reduceToNat, Int.reduceAdd, Int.reduceSub, Int.reduceNeg, hnm, Try.tf0, Try.tf1, Try.tf3, Try.tf4, Try.tf5, Try.tf28, Try.tf33, Try.tf35, Try.tf63, Try.tf65, Try.tf73, Try.teq79]); repeat (refine And.intro (by omega) ?_))
    | ((with_reducible first | apply WL_nil | apply W_label | apply W_skip | apply W_exit | apply W_ret | apply popsD_done); try simp only [seqK, blockK, scopeK, ↓reduceIte, Nat.reduceEqDiff])
    | with_reducible exact popsD_stop
    | (with_reducible apply W_cond_k; intro _ _ ea eb; (simp only [condK, cob, opnd, constPV, Nat.reduceEqDiff, Nat.reduceLT, ↓reduceIte, hcb, reduceCtorEq, forall_const, ne_eq]); subst ea eb; first | (refine ⟨fun hc => ?_, fun hc => ?_⟩ <;> first | (exfalso; omega) | (exfalso; exact hc trivial) | skip) | skip)
    | (with_reducible apply hnx; clear hnx nx)
    | (with_reducible refine And.intro (by omega) ?_)
    | (with_reducible refine And.intro ?_ ?_)
    | (clear hnx nx; with_reducible apply hnx; clear hnx nx)
    | (clear hnx nx; clear hnx nx; with_reducible apply hnx; clear hnx nx)
    | (clear hnx nx; clear hnx nx; clear hnx nx; with_reducible apply hnx; clear hnx nx))
  with_reducible apply W_seq_k
  intro nx hnx
  repeat' (first
    | (with_reducible first | apply W_block | apply W_scope)
    | (with_reducible refine W_prune 61 ?_; simp only [prb, Nat.reducePow, Nat.reduceDiv, Nat.reduceMod, Nat.reduceBEq]; first | (with_reducible apply W_region_l) | with_reducible refine W_region_draw (id := 2) 1 (.op 0 true (.op 1 true (.op 2 true (.op 3 true (.op 4 true (.op 5 true (.op 6 true (.op 7 true (.op 8 true (.op 9 true (.op 10 true (.op 11 true (.op 12 true (.op 13 true (.op 14 true (.done)))))))))))))))) (by kernel_rfl) ?_ | with_reducible refine W_region_draw (id := 6) 3 (.op 0 true (.op 1 true (.op 2 true (.op 3 true (.op 4 true (.op 5 true (.op 6 true (.op 7 true (.op 8 false (.done)))))))))) (by kernel_rfl) ?_)
    | ((first | (with_reducible apply WL_op; intro nx hnx) | with_reducible refine Ev_out ?_ | (with_reducible apply popsD_op; intro nx hnx) | (with_reducible refine popsD_alt ?_ ?_; intro nx hnx) | (with_reducible refine pfresh_k hnm fun nm hnm => ?_; (try simp only [fmb] at hnm)) | (with_reducible refine pborn_mu hnm fun nm hnm => ?_; (try simp only [fmb] at hnm))); try (simp (maxSteps := 2000000) (disch := omega) only [evb, evd, pbuiltin, constPV, pnck, seqK, blockK, scopeK, pbin, pun, ppick, plen, piaddr, pindex, pfield, pslice, pbound, pconv, pelems, pextract, pmm, PV.mem?, PV.one, PV.cells, pageq, peqs, peq1, pmakes, pstore, pbytes, pmark, psrc, pkey, pnile, pcap, pgrow, List.set, Value.cells, ↓popG_eq, ↓pop.eq_1, ↓List.getElem?_map, ↓List.getElem?_cons_zero, ↓List.getElem?_cons_succ, Value.oneCell', Nat.reduceAdd, Nat.reduceMul, Nat.reduceSub, Nat.reduceLeDiff, Nat.reduceEqDiff, ↓reduceIte, ne_eq, reduceCtorEq, forall_const, exists_and_left, exists_eq_left', eq_self, Nat.reduceLT, Int.reduceLT, Int.reduceLE, Int.reduceToNat, Int.reduceAdd, Int.reduceSub, Int.reduceNeg, hnm, Try.tf0, Try.tf1, Try.tf3, Try.tf4, Try.tf5, Try.tf28, Try.tf33, Try.tf35, Try.tf63, Try.tf65, Try.tf73, Try.teq79]); repeat (refine And.intro (by omega) ?_))
    | ((with_reducible first | apply WL_nil | apply W_label | apply W_skip | apply W_exit | apply W_ret | apply popsD_done); try simp only [seqK, blockK, scopeK, ↓reduceIte, Nat.reduceEqDiff])
    | with_reducible exact popsD_stop
    | (with_reducible apply W_cond_k; intro _ _ ea eb; (simp only [condK, cob, opnd, constPV, Nat.reduceEqDiff, Nat.reduceLT, ↓reduceIte, hcb, reduceCtorEq, forall_const, ne_eq]); subst ea eb; first | (refine ⟨fun hc => ?_, fun hc => ?_⟩ <;> first | (exfalso; omega) | (exfalso; exact hc trivial) | skip) | skip)
    | (with_reducible apply hnx; clear hnx nx)
    | (with_reducible refine And.intro (by omega) ?_)
    | (with_reducible refine And.intro ?_ ?_)
    | (clear hnx nx; with_reducible apply hnx; clear hnx nx)
    | (clear hnx nx; clear hnx nx; with_reducible apply hnx; clear hnx nx)
    | (clear hnx nx; clear hnx nx; clear hnx nx; with_reducible apply hnx; clear hnx nx))
  refine W_adopt_f 3 33 1 (by simp only [fr_getD_cons, Nat.reduceEqDiff, Nat.reduceLT, ↓reduceIte]) fun nm0 hnm0 => ?_
  have hn0 : ¬ nm0 = e ∧ ¬ nm0 = w ∧ ¬ nm0 = m := by simpa [names] using hnm0
  refine W_loop_k (fun z τ => ∃ (n : Int) (acc : List (List UInt8)) (s' : LE), z = s'.held.length ∧ acc ++ (delL s').1 = (delL s).1 ∧ (delL s').2 = (delL s).2 ∧ s'.got + s'.held.length ≤ 4611686018427387904 ∧ acc.length + s'.held.length ≤ 4294900000 ∧
      τ = ⟨fr 41 [(0, .ptr e 0), (3, .row n 1 acc.length)], (n, ⟨33, true, 1, acc.map pl⟩) :: endO e w m s'⟩) s.held.length
    ⟨fr 41 [(0, .ptr e 0), (3, .row nm0 1 ([] : List (List UInt8)).length)], (nm0, ⟨33, true, 1, ([] : List (List UInt8)).map pl⟩) :: endO e w m s⟩ (by
    refine Wk_fr (by simp only [wkb, Nat.reduceEqDiff, Nat.reduceLT, ↓reduceIte, List.length_nil]) ?_
    exact Sub_refl (by simp [names, hM, hn0])) ⟨nm0, [], s, rfl, rfl, rfl, hg, by simpa using hh, rfl⟩ ?_
  clear hnm0 hn0
  rintro z τ ⟨n, acc, s', rfl, h1, h2, h3, h4, rfl⟩ lp hlp
  refine W_nd fun nd2 => ?_
  have hN0 : ¬ n = e ∧ ¬ n = w ∧ ¬ n = m := by
    simp only [names, List.map_cons, List.map_nil, List.nodup_cons, List.mem_cons, List.not_mem_nil, or_false, not_or] at nd2
    exact nd2.1
  have hN : (n = e) = False ∧ (n = w) = False ∧ (n = m) = False := ⟨eq_false hN0.1, eq_false hN0.2.1, eq_false hN0.2.2⟩
  have hN2 : (e = n) = False ∧ (w = n) = False ∧ (m = n) = False := ⟨eq_false fun h => hN0.1 h.symm, eq_false fun h => hN0.2.1 h.symm, eq_false fun h => hN0.2.2 h.symm⟩
  clear nd2
  cases hp : pull (s'.got + 1) s'.held with
  | none =>
    have hm := pull_none 0 hp
    push_cast at hm
    rw [delL_none hp] at h1 h2
    rw [List.append_nil] at h1
    subst h1
    simp only at h2
    subst h2
    repeat' (first
    | (with_reducible apply W_seq_k; intro nx hnx)
    | (with_reducible first | apply W_block | apply W_scope)
    | (with_reducible refine W_prune 61 ?_; simp only [prb, Nat.reducePow, Nat.reduceDiv, Nat.reduceMod, Nat.reduceBEq]; first | (with_reducible apply W_region_l) | with_reducible refine W_region_draw (id := 2) 1 (.op 0 true (.op 1 true (.op 2 true (.op 3 true (.op 4 true (.op 5 true (.op 6 true (.op 7 true (.op 8 true (.op 9 true (.op 10 true (.op 11 true (.op 12 true (.op 13 true (.op 14 true (.done)))))))))))))))) (by kernel_rfl) ?_ | with_reducible refine W_region_draw (id := 6) 3 (.op 0 true (.op 1 true (.op 2 true (.op 3 true (.op 4 true (.op 5 true (.op 6 true (.op 7 true (.op 8 false (.done)))))))))) (by kernel_rfl) ?_)
    | ((first | (with_reducible apply WL_op; intro nx hnx) | with_reducible refine Ev_out ?_ | (with_reducible apply popsD_op; intro nx hnx) | (with_reducible refine popsD_alt ?_ ?_; intro nx hnx) | (with_reducible refine pfresh_k hnm fun nm hnm => ?_; (try simp only [fmb] at hnm)) | (with_reducible refine pborn_mu hnm fun nm hnm => ?_; (try simp only [fmb] at hnm))); try (simp (maxSteps := 2000000) (disch := omega) only [evb, evd, pbuiltin, constPV, pnck, seqK, blockK, scopeK, pbin, pun, ppick, plen, piaddr, pindex, pfield, pslice, pbound, pconv, pelems, pextract, pmm, PV.mem?, PV.one, PV.cells, pageq, peqs, peq1, pmakes, pstore, pbytes, pmark, psrc, pkey, pnile, pcap, pgrow, List.set, Value.cells, ↓popG_eq, ↓pop.eq_1, ↓List.getElem?_map, ↓List.getElem?_cons_zero, ↓List.getElem?_cons_succ, Value.oneCell', Nat.reduceAdd, Nat.reduceMul, Nat.reduceSub, Nat.reduceLeDiff, Nat.reduceEqDiff, ↓reduceIte, ne_eq, reduceCtorEq, forall_const, exists_and_left, exists_eq_left', eq_self, Nat.reduceLT, Int.reduceLT, Int.reduceLE, Int.reduceToNat, Int.reduceAdd, Int.reduceSub, Int.reduceNeg, hnm, Try.tf0, Try.tf1, Try.tf3, Try.tf4, Try.tf5, Try.tf28, Try.tf33, Try.tf35, Try.tf63, Try.tf65, Try.tf73, Try.teq79, hM, hN, hN2, hm]); repeat (refine And.intro (by omega) ?_))
    | ((with_reducible first | apply WL_nil | apply W_label | apply W_skip | apply W_exit | apply W_ret | apply popsD_done); try simp only [seqK, blockK, scopeK, ↓reduceIte, Nat.reduceEqDiff])
    | with_reducible exact popsD_stop
    | (with_reducible apply W_cond_k; intro _ _ ea eb; (simp only [condK, cob, opnd, constPV, Nat.reduceEqDiff, Nat.reduceLT, ↓reduceIte, hcb, reduceCtorEq, forall_const, ne_eq]); subst ea eb; first | (refine ⟨fun hc => ?_, fun hc => ?_⟩ <;> first | (exfalso; omega) | (exfalso; exact hc trivial) | skip) | skip)
    | (with_reducible apply hnx; clear hnx nx)
    | (with_reducible refine And.intro (by omega) ?_)
    | (with_reducible refine And.intro ?_ ?_)
    | (clear hnx nx; with_reducible apply hnx; clear hnx nx)
    | (clear hnx nx; clear hnx nx; with_reducible apply hnx; clear hnx nx)
    | (clear hnx nx; clear hnx nx; clear hnx nx; with_reducible apply hnx; clear hnx nx))
    refine hfin _ _ (Fin_ret1 rfl (H := (n, ⟨33, true, 1, (delL s).1.map pl⟩) :: endO e w m (delL s).2) (Sub_refl (by simp [names, hM, hN, hN2])) ⟨n, hN0, ?_, rfl⟩)
    simp only [fr_getD_cons, Nat.reduceEqDiff, Nat.reduceLT, ↓reduceIte]
  | some x =>
    obtain ⟨b, h'⟩ := x
    obtain ⟨j, hm, he, hl, hj⟩ := pull_some 0 hp
    push_cast at hm
    rw [delL_some hp] at h1 h2
    repeat' (first
    | (with_reducible apply W_seq_k; intro nx hnx)
    | (with_reducible first | apply W_block | apply W_scope)
    | (with_reducible refine W_prune 61 ?_; simp only [prb, Nat.reducePow, Nat.reduceDiv, Nat.reduceMod, Nat.reduceBEq]; first | (with_reducible apply W_region_l) | with_reducible refine W_region_draw (id := 2) 1 (.op 0 true (.op 1 true (.op 2 true (.op 3 true (.op 4 true (.op 5 true (.op 6 true (.op 7 true (.op 8 true (.op 9 true (.op 10 true (.op 11 true (.op 12 true (.op 13 true (.op 14 true (.done)))))))))))))))) (by kernel_rfl) ?_ | with_reducible refine W_region_draw (id := 6) 3 (.op 0 true (.op 1 true (.op 2 true (.op 3 true (.op 4 true (.op 5 true (.op 6 true (.op 7 true (.op 8 false (.done)))))))))) (by kernel_rfl) ?_)
    | ((first | (with_reducible apply WL_op; intro nx hnx) | with_reducible refine Ev_out ?_ | (with_reducible apply popsD_op; intro nx hnx) | (with_reducible refine popsD_alt ?_ ?_; intro nx hnx) | (with_reducible refine pfresh_k hnm fun nm hnm => ?_; (try simp only [fmb] at hnm)) | (with_reducible refine pborn_mu hnm fun nm hnm => ?_; (try simp only [fmb] at hnm))); try (simp (maxSteps := 2000000) (disch := omega) only [evb, evd, pbuiltin, constPV, pnck, seqK, blockK, scopeK, pbin, pun, ppick, plen, piaddr, pindex, pfield, pslice, pbound, pconv, pelems, pextract, pmm, PV.mem?, PV.one, PV.cells, pageq, peqs, peq1, pmakes, pstore, pbytes, pmark, psrc, pkey, pnile, pcap, pgrow, List.set, Value.cells, ↓popG_eq, ↓pop.eq_1, ↓List.getElem?_map, ↓List.getElem?_cons_zero, ↓List.getElem?_cons_succ, Value.oneCell', Nat.reduceAdd, Nat.reduceMul, Nat.reduceSub, Nat.reduceLeDiff, Nat.reduceEqDiff, ↓reduceIte, ne_eq, reduceCtorEq, forall_const, exists_and_left, exists_eq_left', eq_self, Nat.reduceLT, Int.reduceLT, Int.reduceLE, Int.reduceToNat, Int.reduceAdd, Int.reduceSub, Int.reduceNeg, hnm, Try.tf0, Try.tf1, Try.tf3, Try.tf4, Try.tf5, Try.tf28, Try.tf33, Try.tf35, Try.tf63, Try.tf65, Try.tf73, Try.teq79, hM, hN, hN2, hm, he]); repeat (refine And.intro (by omega) ?_))
    | ((with_reducible first | apply WL_nil | apply W_label | apply W_skip | apply W_exit | apply W_ret | apply popsD_done); try simp only [seqK, blockK, scopeK, ↓reduceIte, Nat.reduceEqDiff])
    | with_reducible exact popsD_stop
    | (with_reducible apply W_cond_k; intro _ _ ea eb; (simp only [condK, cob, opnd, constPV, Nat.reduceEqDiff, Nat.reduceLT, ↓reduceIte, hcb, reduceCtorEq, forall_const, ne_eq]); subst ea eb; first | (refine ⟨fun hc => ?_, fun hc => ?_⟩ <;> first | (exfalso; omega) | (exfalso; exact hc trivial) | skip) | skip)
    | (with_reducible apply hnx; clear hnx nx)
    | (with_reducible refine And.intro (by omega) ?_)
    | (with_reducible refine And.intro ?_ ?_)
    | (clear hnx nx; with_reducible apply hnx; clear hnx nx)
    | (clear hnx nx; clear hnx nx; with_reducible apply hnx; clear hnx nx)
    | (clear hnx nx; clear hnx nx; clear hnx nx; with_reducible apply hnx; clear hnx nx))
    refine hlp _ h'.length _ (by omega) ?_ ⟨nm, acc ++ [b], { s' with got := s'.got + 1, held := h' }, rfl, by rw [List.append_assoc]; exact h1, h2, by show s'.got + 1 + h'.length ≤ _; omega, by rw [List.length_append]; show acc.length + 1 + h'.length ≤ _; omega, rfl⟩
    refine Wk_fr (by simp only [wkb, Nat.reduceEqDiff, Nat.reduceLT, ↓reduceIte, List.length_append, List.length_cons, List.length_nil]) ?_
    refine ⟨?_, ?_⟩
    · intro x hx
      simp only [List.mem_cons, List.not_mem_nil, or_false] at hx ⊢
      rcases hx with rfl | rfl | rfl | rfl
      · exact .inl (by simp)
      · exact .inr (.inr (.inl (by simp)))
      · exact .inr (.inr (.inr (.inl rfl)))
      · exact .inr (.inr (.inr (.inr rfl)))
    · simp [names, hM, hnm]
theorem deliver_c (G : Globs) (e w m : Int) (s : LE) (hh : s.held.length ≤ 4294900000) (hg : s.got + s.held.length ≤ 4611686018427387904) :
    PCalls Try.prog G 38 [.ptr e 0] (endO e w m s) (fun res H => res = .list 1 ((delL s).1.map pl) ∧ H = endO e w m (delL s).2) := by
  refine (deliver_r G e w m s hh hg).wxs ?_
  rintro _ _ ⟨n, ⟨h1, h2, h3⟩, rfl, rfl⟩
  have hl : (delL s).1.length = ((delL s).1.map pl).length := by rw [List.length_map]
  rw [hl]
  exact Wxs_row (by simp [names, h1, h2, h3]) (end_frz h1 h2 h3) ⟨_, rfl, rfl, rfl⟩
end Go.PM

namespace Go.PM
open Go.Proofs
section
variable {P : Program} {G : Globs} {I : List Int}
/-- What comes back is read in another way. -/
theorem PCalls.rep {f : FuncId} {args : List PV} {Hin : Heap} {R R' : PV → Heap → Prop} (h : PCalls P G f args Hin R)
    (hr : ∀ res H, R res H → ∃ res', (∀ w A v, Rep w A res v → Rep w A res' v) ∧ R' res' H) : PCalls P G f args Hin R' := by
  intro w A F vals h1 h2 h3 h4 h5 h6 h7
  refine (h w A F vals h1 h2 h3 h4 h5 h6 h7).mono ?_
  rintro e w' ⟨v, A', res, Hout, he, hR, hrep, hs⟩
  obtain ⟨res', hf, hR'⟩ := hr _ _ hR
  exact ⟨v, A', res', Hout, he, hR', hf _ _ _ hrep, hs⟩
theorem rep_nil2 (es : Nat) (q : PV) : ∀ (w : World) (A : Nat → Prop) (v : Value), Rep w A (.tuple [pnil, q]) v → Rep w A (.tuple [.list es [], q]) v := by
  intro w A v hr
  obtain ⟨f, rfl, h2⟩ := hr.tuple_inv
  exact .tuple [.list es [], q] f (fun j u hu => by
    match j, hu with
    | 0, hu => cases hu; exact nil_list es (h2 0 pnil rfl)
    | j + 1, hu => exact h2 (j + 1) u hu)
end
/-- Lists of bytes and an error come back, and an end. -/
@[reducible] def InR (e : Int) (x : (List (List UInt8) × Int) × LE) (res : PV) (H : Heap) : Prop := res = .tuple [.list 1 (x.1.1.map pl), pint .i64 x.1.2] ∧ IsEnd e x.2 H
@[reducible] def InR0 (e : Int) (x : (List (List UInt8) × Int) × LE) (res : PV) (H : Heap) : Prop := ((x.1.1 = [] ∧ res = .tuple [pnil, pint .i64 x.1.2]) ∨ res = .tuple [.list 1 (x.1.1.map pl), pint .i64 x.1.2]) ∧ IsEnd e x.2 H
theorem InR0.up {G : Globs} {f : FuncId} {args : List PV} {Hin : Heap} {e : Int} {x : (List (List UInt8) × Int) × LE} (h : PCalls Try.prog G f args Hin (InR0 e x)) : PCalls Try.prog G f args Hin (InR e x) := by
  refine h.rep ?_
  rintro res H ⟨⟨h1, rfl⟩ | rfl, hE⟩
  · refine ⟨_, rep_nil2 1 _, ?_, hE⟩
    rw [h1]
    rfl
  · exact ⟨_, fun _ _ _ h => h, rfl, hE⟩
/-- An acknowledgement is taken. -/
def ackL (s : LE) (a : Nat) : LE := if s.acked < a then { s with wait := s.wait.drop (a - s.acked), acked := a } else s
/-- A packet is held. -/
def holdL (s : LE) (q : Nat) (b : List UInt8) : LE := if s.got < q ∧ pull q s.held = none then { s with owing := true, held := s.held ++ [(q, b)] } else { s with owing := true }
/-- A packet comes in. -/
def takeL (s : LE) (p : Int × Int × List UInt8) : List (List UInt8) × LE :=
  if s.acked + s.wait.length < p.2.1.toNat ∨ s.got + 16 < p.1.toNat then ([], s)
  else if p.1.toNat = 0 then ([], ackL s p.2.1.toNat)
  else delL (holdL (ackL s p.2.1.toNat) p.1.toNat p.2.2)
/-- Bytes come in. -/
def inL (s : LE) (x : List UInt8) : (List (List UInt8) × Int) × LE :=
  if (openF s.key x).2 = 9 then (([], 9), { s with forged := s.forged + 1 })
  else if (openF s.key x).2 ≠ 0 then (([], (openF s.key x).2), s)
  else if (readF (openF s.key x).1).2 = false then (([], 2), s)
  else (((takeL s (readF (openF s.key x).1).1).1, 0), (takeL s (readF (openF s.key x).1).1).2)
theorem readF_ok {c : List UInt8} (h : (readF c).2 = true) : 0 ≤ (readF c).1.1 ∧ 0 ≤ (readF c).1.2.1 ∧ (readF c).1.2.2.length ≤ 65536 := by
  unfold readF at *
  generalize gLs gI 1 c = X at *
  generalize gS (c.drop X.2.1) = Y at *
  by_cases h1 : X.2.2 ≠ 0 ∨ X.1.length ≠ 2
  · simp only [if_pos h1] at h
    cases h
  · simp only [if_neg h1] at h ⊢
    by_cases h2 : Y.2.2 ≠ 0 ∨ X.2.1 + Y.2.1 ≠ c.length
    · simp only [if_pos h2] at h
      cases h
    · simp only [if_neg h2] at h ⊢
      simp only [okP, Bool.and_eq_true, decide_eq_true_eq] at h
      exact ⟨h.1.1.1, h.1.1.2, h.1.2⟩
theorem openF_len (key : UInt64) (x : List UInt8) : (openF key x).1.length ≤ x.length := by
  unfold openF
  split
  · simp
  · split
    · simp only [List.length_take]; omega
    · simp
theorem openF_e (key : UInt64) (x : List UInt8) : (openF key x).2 = 0 ∨ (openF key x).2 = 2 ∨ (openF key x).2 = 9 := by
  unfold openF
  split
  · exact .inr (.inl rfl)
  · split
    · exact .inl rfl
    · exact .inr (.inr rfl)
attribute [local irreducible] W PCalls pcall pcallI WL
/-- How far an end's numbers may go. -/
@[reducible] def OkE (s : LE) : Prop := s.wait.length ≤ 1000000 ∧ s.acked + s.wait.length ≤ 2000000000 ∧ s.got + s.held.length ≤ 2000000000 ∧ s.forged ≤ 2000000000
set_option maxRecDepth 100000 in
set_option maxHeartbeats 8000000 in
theorem in_bad (G : Globs) (e : Int) (s : LE) (x : List UInt8) (hx : x.length ≤ 4294900000) (hs : OkE s) (Hin : Heap) (hH : IsEnd e s Hin) (hbad : (openF s.key x).2 ≠ 0) :
    PCalls Try.prog G 19 [.ptr e 0, pl x] Hin (InR0 e (inL s x)) := by
  obtain ⟨w, m, rfl⟩ := hH
  obtain ⟨hs1, hs2, hs3, hs4⟩ := hs
  refine PCalls.nd fun nd => ?_
  have hM := end_nd nd
  have c1 := Open_c G s.key x hx
  have hE := openF_e s.key x
  unfold inL
  generalize openF s.key x = o at *
  obtain ⟨c, f⟩ := o
  simp only at *
  by_cases h9 : f = 9
  · subst h9
    rw [if_pos rfl]
    (refine PCalls_f Try.func19 rfl Try.ntmps19 Try.results19 (by simp) fun fin hfin => ?_; have hnm : True := trivial; simp (maxSteps := 2000000) (disch := omega) only [evb, evd, pbuiltin, constPV, pnck, seqK, blockK, scopeK, pbin, pun, ppick, plen, piaddr, pindex, pfield, pslice, pbound, pconv, pelems, pextract, pmm, PV.mem?, PV.one, PV.cells, pageq, peqs, peq1, pmakes, pstore, pbytes, pmark, psrc, pkey, pnile, pcap, pgrow, List.set, Value.cells, ↓popG_eq, ↓pop.eq_1, ↓List.getElem?_map, ↓List.getElem?_cons_zero, ↓List.getElem?_cons_succ, Value.oneCell', Nat.reduceAdd, Nat.reduceMul, Nat.reduceSub, Nat.reduceLeDiff, Nat.reduceEqDiff, ↓reduceIte, ne_eq, reduceCtorEq, forall_const, exists_and_left, exists_eq_left', eq_self, Nat.reduceLT, Int.reduceLT, Int.reduceLE, Int.reduceToNat, Int.reduceAdd, Int.reduceSub, Int.reduceNeg, hnm, Try.tf0, Try.tf1, Try.tf2, Try.tf3, Try.tf4, Try.tf5, Try.tf6, Try.tf7, Try.tf22, Try.tf28, Try.tf33, Try.tf34, Try.tf35, Try.tf49, Try.tf63, Try.tf65, Try.tf68, Try.tf70, Try.tf73, Try.teq79, Try.call25, Try.call32, Try.call36, Try.call37, Try.call38])
    repeat' (first
    | (with_reducible apply W_seq_k; intro nx hnx)
    | (with_reducible first | apply W_block | apply W_scope)
    | (with_reducible refine W_prune 6131 ?_; simp only [prb, Nat.reducePow, Nat.reduceDiv, Nat.reduceMod, Nat.reduceBEq]; first | (with_reducible apply W_region_l) | with_reducible refine W_region_draw (id := 9) 1 (.op 0 true (.op 1 true (.op 2 true (.op 3 true (.op 4 true (.op 5 true (.op 6 true (.op 7 true (.op 8 true (.op 9 true (.op 10 true (.op 11 true (.op 12 true (.op 13 true (.op 14 true (.op 15 true (.op 16 true (.op 17 true (.op 18 true (.op 19 true (.op 20 true (.op 21 true (.op 22 true (.done)))))))))))))))))))))))) (by kernel_rfl) ?_ | with_reducible refine W_region_draw (id := 11) 1 (.op 0 true (.op 1 true (.op 2 true (.op 3 true (.op 4 true (.op 5 true (.op 6 true (.op 7 true (.done))))))))) (by kernel_rfl) ?_ | with_reducible refine W_region_draw (id := 18) 1 (.op 0 true (.op 1 true (.op 2 true (.op 3 true (.op 4 true (.op 5 true (.op 6 true (.op 7 true (.op 8 true (.op 9 true (.op 10 true (.op 11 true (.done))))))))))))) (by kernel_rfl) ?_ | with_reducible refine W_region_draw (id := 19) 1 (.op 0 true (.op 1 true (.op 2 true (.op 3 true (.op 4 true (.op 5 true (.op 6 true (.op 7 true (.op 8 true (.op 9 true (.op 10 true (.done)))))))))))) (by kernel_rfl) ?_ | with_reducible refine W_region_draw (id := 20) 1 (.op 0 true (.op 1 true (.op 2 true (.op 3 true (.op 4 true (.op 5 true (.op 6 true (.op 7 true (.op 8 true (.op 9 false (.done))))))))))) (by kernel_rfl) ?_)
    | ((first | (with_reducible apply WL_op; intro nx hnx) | with_reducible refine Ev_out ?_ | (with_reducible apply popsD_op; intro nx hnx) | (with_reducible refine popsD_alt ?_ ?_; intro nx hnx) | (with_reducible refine pfresh_k hnm fun nm hnm => ?_; (try simp only [fmb] at hnm)) | (with_reducible refine pborn_mu hnm fun nm hnm => ?_; (try simp only [fmb] at hnm)) | (with_reducible refine pmaybe_k ?_; intro bn hbn)); try (simp (maxSteps := 2000000) (disch := omega) only [evb, evd, pbuiltin, constPV, pnck, seqK, blockK, scopeK, pbin, pun, ppick, plen, piaddr, pindex, pfield, pslice, pbound, pconv, pelems, pextract, pmm, PV.mem?, PV.one, PV.cells, pageq, peqs, peq1, pmakes, pstore, pbytes, pmark, psrc, pkey, pnile, pcap, pgrow, List.set, Value.cells, ↓popG_eq, ↓pop.eq_1, ↓List.getElem?_map, ↓List.getElem?_cons_zero, ↓List.getElem?_cons_succ, Value.oneCell', Nat.reduceAdd, Nat.reduceMul, Nat.reduceSub, Nat.reduceLeDiff, Nat.reduceEqDiff, ↓reduceIte, ne_eq, reduceCtorEq, forall_const, exists_and_left, exists_eq_left', eq_self, Nat.reduceLT, Int.reduceLT, Int.reduceLE, Int.reduceToNat, Int.reduceAdd, Int.reduceSub, Int.reduceNeg, hnm, Try.tf0, Try.tf1, Try.tf2, Try.tf3, Try.tf4, Try.tf5, Try.tf6, Try.tf7, Try.tf22, Try.tf28, Try.tf33, Try.tf34, Try.tf35, Try.tf49, Try.tf63, Try.tf65, Try.tf68, Try.tf70, Try.tf73, Try.teq79, Try.call25, Try.call32, Try.call36, Try.call37, Try.call38, hM]); repeat (refine And.intro (by omega) ?_))
    | ((with_reducible first | apply WL_nil | apply W_label | apply W_skip | apply W_exit | apply W_ret | apply popsD_done); try simp only [seqK, blockK, scopeK, ↓reduceIte, Nat.reduceEqDiff])
    | with_reducible exact popsD_stop
    | (with_reducible apply pguard_intro <;> (intro hc; (try simp only [hcb, reduceCtorEq, forall_const, ne_eq] at hc); first | (exfalso; omega) | (exfalso; exact hc trivial) | refine Ev_in ?_))
    | (with_reducible apply W_cond_k; intro _ _ ea eb; (simp only [condK, cob, opnd, constPV, Nat.reduceEqDiff, Nat.reduceLT, ↓reduceIte, hcb, reduceCtorEq, forall_const, ne_eq]); subst ea eb; first | (refine ⟨fun hc => ?_, fun hc => ?_⟩ <;> first | (exfalso; omega) | (exfalso; exact hc trivial) | skip) | skip)
    | (with_reducible apply hnx; clear hnx nx)
    | (with_reducible refine And.intro (by omega) ?_)
    | (with_reducible refine And.intro ?_ ?_)
    | (with_reducible refine pcall_k (c1) ?_; rintro _ _ ⟨rfl, rfl⟩ -; refine Ev_in ?_)
    | (clear hnx nx; with_reducible apply hnx; clear hnx nx)
    | (clear hnx nx; clear hnx nx; with_reducible apply hnx; clear hnx nx)
    | (clear hnx nx; clear hnx nx; clear hnx nx; with_reducible apply hnx; clear hnx nx))
    all_goals first
      | (exfalso
         omega)
      | skip
    refine hfin _ _ (Fin_ret2 rfl rfl (H := endO e w m { s with forged := s.forged + 1 }) (Sub_refl nd) ⟨.inl ⟨rfl, ?_⟩, w, m, rfl⟩)
    simp only [fr_getD_cons, Nat.reduceEqDiff, Nat.reduceLT, ↓reduceIte]
  · rw [if_neg h9, if_pos hbad]
    (refine PCalls_f Try.func19 rfl Try.ntmps19 Try.results19 (by simp) fun fin hfin => ?_; have hnm : True := trivial; simp (maxSteps := 2000000) (disch := omega) only [evb, evd, pbuiltin, constPV, pnck, seqK, blockK, scopeK, pbin, pun, ppick, plen, piaddr, pindex, pfield, pslice, pbound, pconv, pelems, pextract, pmm, PV.mem?, PV.one, PV.cells, pageq, peqs, peq1, pmakes, pstore, pbytes, pmark, psrc, pkey, pnile, pcap, pgrow, List.set, Value.cells, ↓popG_eq, ↓pop.eq_1, ↓List.getElem?_map, ↓List.getElem?_cons_zero, ↓List.getElem?_cons_succ, Value.oneCell', Nat.reduceAdd, Nat.reduceMul, Nat.reduceSub, Nat.reduceLeDiff, Nat.reduceEqDiff, ↓reduceIte, ne_eq, reduceCtorEq, forall_const, exists_and_left, exists_eq_left', eq_self, Nat.reduceLT, Int.reduceLT, Int.reduceLE, Int.reduceToNat, Int.reduceAdd, Int.reduceSub, Int.reduceNeg, hnm, Try.tf0, Try.tf1, Try.tf2, Try.tf3, Try.tf4, Try.tf5, Try.tf6, Try.tf7, Try.tf22, Try.tf28, Try.tf33, Try.tf34, Try.tf35, Try.tf49, Try.tf63, Try.tf65, Try.tf68, Try.tf70, Try.tf73, Try.teq79, Try.call25, Try.call32, Try.call36, Try.call37, Try.call38])
    repeat' (first
    | (with_reducible apply W_seq_k; intro nx hnx)
    | (with_reducible first | apply W_block | apply W_scope)
    | (with_reducible refine W_prune 6131 ?_; simp only [prb, Nat.reducePow, Nat.reduceDiv, Nat.reduceMod, Nat.reduceBEq]; first | (with_reducible apply W_region_l) | with_reducible refine W_region_draw (id := 9) 1 (.op 0 true (.op 1 true (.op 2 true (.op 3 true (.op 4 true (.op 5 true (.op 6 true (.op 7 true (.op 8 true (.op 9 true (.op 10 true (.op 11 true (.op 12 true (.op 13 true (.op 14 true (.op 15 true (.op 16 true (.op 17 true (.op 18 true (.op 19 true (.op 20 true (.op 21 true (.op 22 true (.done)))))))))))))))))))))))) (by kernel_rfl) ?_ | with_reducible refine W_region_draw (id := 11) 1 (.op 0 true (.op 1 true (.op 2 true (.op 3 true (.op 4 true (.op 5 true (.op 6 true (.op 7 true (.done))))))))) (by kernel_rfl) ?_ | with_reducible refine W_region_draw (id := 18) 1 (.op 0 true (.op 1 true (.op 2 true (.op 3 true (.op 4 true (.op 5 true (.op 6 true (.op 7 true (.op 8 true (.op 9 true (.op 10 true (.op 11 true (.done))))))))))))) (by kernel_rfl) ?_ | with_reducible refine W_region_draw (id := 19) 1 (.op 0 true (.op 1 true (.op 2 true (.op 3 true (.op 4 true (.op 5 true (.op 6 true (.op 7 true (.op 8 true (.op 9 true (.op 10 true (.done)))))))))))) (by kernel_rfl) ?_ | with_reducible refine W_region_draw (id := 20) 1 (.op 0 true (.op 1 true (.op 2 true (.op 3 true (.op 4 true (.op 5 true (.op 6 true (.op 7 true (.op 8 true (.op 9 false (.done))))))))))) (by kernel_rfl) ?_)
    | ((first | (with_reducible apply WL_op; intro nx hnx) | with_reducible refine Ev_out ?_ | (with_reducible apply popsD_op; intro nx hnx) | (with_reducible refine popsD_alt ?_ ?_; intro nx hnx) | (with_reducible refine pfresh_k hnm fun nm hnm => ?_; (try simp only [fmb] at hnm)) | (with_reducible refine pborn_mu hnm fun nm hnm => ?_; (try simp only [fmb] at hnm)) | (with_reducible refine pmaybe_k ?_; intro bn hbn)); try (simp (maxSteps := 2000000) (disch := omega) only [evb, evd, pbuiltin, constPV, pnck, seqK, blockK, scopeK, pbin, pun, ppick, plen, piaddr, pindex, pfield, pslice, pbound, pconv, pelems, pextract, pmm, PV.mem?, PV.one, PV.cells, pageq, peqs, peq1, pmakes, pstore, pbytes, pmark, psrc, pkey, pnile, pcap, pgrow, List.set, Value.cells, ↓popG_eq, ↓pop.eq_1, ↓List.getElem?_map, ↓List.getElem?_cons_zero, ↓List.getElem?_cons_succ, Value.oneCell', Nat.reduceAdd, Nat.reduceMul, Nat.reduceSub, Nat.reduceLeDiff, Nat.reduceEqDiff, ↓reduceIte, ne_eq, reduceCtorEq, forall_const, exists_and_left, exists_eq_left', eq_self, Nat.reduceLT, Int.reduceLT, Int.reduceLE, Int.reduceToNat, Int.reduceAdd, Int.reduceSub, Int.reduceNeg, hnm, Try.tf0, Try.tf1, Try.tf2, Try.tf3, Try.tf4, Try.tf5, Try.tf6, Try.tf7, Try.tf22, Try.tf28, Try.tf33, Try.tf34, Try.tf35, Try.tf49, Try.tf63, Try.tf65, Try.tf68, Try.tf70, Try.tf73, Try.teq79, Try.call25, Try.call32, Try.call36, Try.call37, Try.call38, hM]); repeat (refine And.intro (by omega) ?_))
    | ((with_reducible first | apply WL_nil | apply W_label | apply W_skip | apply W_exit | apply W_ret | apply popsD_done); try simp only [seqK, blockK, scopeK, ↓reduceIte, Nat.reduceEqDiff])
    | with_reducible exact popsD_stop
    | (with_reducible apply pguard_intro <;> (intro hc; (try simp only [hcb, reduceCtorEq, forall_const, ne_eq] at hc); first | (exfalso; omega) | (exfalso; exact hc trivial) | refine Ev_in ?_))
    | (with_reducible apply W_cond_k; intro _ _ ea eb; (simp only [condK, cob, opnd, constPV, Nat.reduceEqDiff, Nat.reduceLT, ↓reduceIte, hcb, reduceCtorEq, forall_const, ne_eq]); subst ea eb; first | (refine ⟨fun hc => ?_, fun hc => ?_⟩ <;> first | (exfalso; omega) | (exfalso; exact hc trivial) | skip) | skip)
    | (with_reducible apply hnx; clear hnx nx)
    | (with_reducible refine And.intro (by omega) ?_)
    | (with_reducible refine And.intro ?_ ?_)
    | (with_reducible refine pcall_k (c1) ?_; rintro _ _ ⟨rfl, rfl⟩ -; refine Ev_in ?_)
    | (clear hnx nx; with_reducible apply hnx; clear hnx nx)
    | (clear hnx nx; clear hnx nx; with_reducible apply hnx; clear hnx nx)
    | (clear hnx nx; clear hnx nx; clear hnx nx; with_reducible apply hnx; clear hnx nx))
    all_goals first
      | (exfalso
         omega)
      | skip
    refine hfin _ _ (Fin_ret2 rfl rfl (H := endO e w m s) (Sub_refl nd) ⟨.inl ⟨rfl, ?_⟩, w, m, rfl⟩)
    simp only [fr_getD_cons, Nat.reduceEqDiff, Nat.reduceLT, ↓reduceIte]
set_option maxRecDepth 100000 in
set_option maxHeartbeats 8000000 in
theorem in_none (G : Globs) (e : Int) (s : LE) (x : List UInt8) (hx : x.length ≤ 4294900000) (hs : OkE s) (Hin : Heap) (hH : IsEnd e s Hin) (ho : (openF s.key x).2 = 0) (hr : (readF (openF s.key x).1).2 = false) :
    PCalls Try.prog G 19 [.ptr e 0, pl x] Hin (InR0 e (inL s x)) := by
  obtain ⟨w, m, rfl⟩ := hH
  obtain ⟨hs1, hs2, hs3, hs4⟩ := hs
  refine PCalls.nd fun nd => ?_
  have hM := end_nd nd
  have c1 := Open_c G s.key x hx
  have c2 := read_c2 G (openF s.key x).1 (Nat.le_trans (openF_len _ _) hx)
  have hX : inL s x = (([], 2), s) := by
    unfold inL
    rw [if_neg (by omega), if_neg (by omega), if_pos hr]
  rw [hX]
  clear hX
  generalize openF s.key x = o at *
  obtain ⟨c, f⟩ := o
  simp only at *
  subst ho
  (refine PCalls_f Try.func19 rfl Try.ntmps19 Try.results19 (by simp) fun fin hfin => ?_; have hnm : True := trivial; simp (maxSteps := 2000000) (disch := omega) only [evb, evd, pbuiltin, constPV, pnck, seqK, blockK, scopeK, pbin, pun, ppick, plen, piaddr, pindex, pfield, pslice, pbound, pconv, pelems, pextract, pmm, PV.mem?, PV.one, PV.cells, pageq, peqs, peq1, pmakes, pstore, pbytes, pmark, psrc, pkey, pnile, pcap, pgrow, List.set, Value.cells, ↓popG_eq, ↓pop.eq_1, ↓List.getElem?_map, ↓List.getElem?_cons_zero, ↓List.getElem?_cons_succ, Value.oneCell', Nat.reduceAdd, Nat.reduceMul, Nat.reduceSub, Nat.reduceLeDiff, Nat.reduceEqDiff, ↓reduceIte, ne_eq, reduceCtorEq, forall_const, exists_and_left, exists_eq_left', eq_self, Nat.reduceLT, Int.reduceLT, Int.reduceLE, Int.reduceToNat, Int.reduceAdd, Int.reduceSub, Int.reduceNeg, hnm, Try.tf0, Try.tf1, Try.tf2, Try.tf3, Try.tf4, Try.tf5, Try.tf6, Try.tf7, Try.tf22, Try.tf28, Try.tf33, Try.tf34, Try.tf35, Try.tf49, Try.tf63, Try.tf65, Try.tf68, Try.tf70, Try.tf73, Try.teq79, Try.call25, Try.call32, Try.call36, Try.call37, Try.call38])
  repeat' (first
    | (with_reducible apply W_seq_k; intro nx hnx)
    | (with_reducible first | apply W_block | apply W_scope)
    | (with_reducible refine W_prune 6131 ?_; simp only [prb, Nat.reducePow, Nat.reduceDiv, Nat.reduceMod, Nat.reduceBEq]; first | (with_reducible apply W_region_l) | with_reducible refine W_region_draw (id := 9) 1 (.op 0 true (.op 1 true (.op 2 true (.op 3 true (.op 4 true (.op 5 true (.op 6 true (.op 7 true (.op 8 true (.op 9 true (.op 10 true (.op 11 true (.op 12 true (.op 13 true (.op 14 true (.op 15 true (.op 16 true (.op 17 true (.op 18 true (.op 19 true (.op 20 true (.op 21 true (.op 22 true (.done)))))))))))))))))))))))) (by kernel_rfl) ?_ | with_reducible refine W_region_draw (id := 11) 1 (.op 0 true (.op 1 true (.op 2 true (.op 3 true (.op 4 true (.op 5 true (.op 6 true (.op 7 true (.done))))))))) (by kernel_rfl) ?_ | with_reducible refine W_region_draw (id := 18) 1 (.op 0 true (.op 1 true (.op 2 true (.op 3 true (.op 4 true (.op 5 true (.op 6 true (.op 7 true (.op 8 true (.op 9 true (.op 10 true (.op 11 true (.done))))))))))))) (by kernel_rfl) ?_ | with_reducible refine W_region_draw (id := 19) 1 (.op 0 true (.op 1 true (.op 2 true (.op 3 true (.op 4 true (.op 5 true (.op 6 true (.op 7 true (.op 8 true (.op 9 true (.op 10 true (.done)))))))))))) (by kernel_rfl) ?_ | with_reducible refine W_region_draw (id := 20) 1 (.op 0 true (.op 1 true (.op 2 true (.op 3 true (.op 4 true (.op 5 true (.op 6 true (.op 7 true (.op 8 true (.op 9 false (.done))))))))))) (by kernel_rfl) ?_)
    | ((first | (with_reducible apply WL_op; intro nx hnx) | with_reducible refine Ev_out ?_ | (with_reducible apply popsD_op; intro nx hnx) | (with_reducible refine popsD_alt ?_ ?_; intro nx hnx) | (with_reducible refine pfresh_k hnm fun nm hnm => ?_; (try simp only [fmb] at hnm)) | (with_reducible refine pborn_mu hnm fun nm hnm => ?_; (try simp only [fmb] at hnm)) | (with_reducible refine pmaybe_k ?_; intro bn hbn)); try (simp (maxSteps := 2000000) (disch := omega) only [evb, evd, pbuiltin, constPV, pnck, seqK, blockK, scopeK, pbin, pun, ppick, plen, piaddr, pindex, pfield, pslice, pbound, pconv, pelems, pextract, pmm, PV.mem?, PV.one, PV.cells, pageq, peqs, peq1, pmakes, pstore, pbytes, pmark, psrc, pkey, pnile, pcap, pgrow, List.set, Value.cells, ↓popG_eq, ↓pop.eq_1, ↓List.getElem?_map, ↓List.getElem?_cons_zero, ↓List.getElem?_cons_succ, Value.oneCell', Nat.reduceAdd, Nat.reduceMul, Nat.reduceSub, Nat.reduceLeDiff, Nat.reduceEqDiff, ↓reduceIte, ne_eq, reduceCtorEq, forall_const, exists_and_left, exists_eq_left', eq_self, Nat.reduceLT, Int.reduceLT, Int.reduceLE, Int.reduceToNat, Int.reduceAdd, Int.reduceSub, Int.reduceNeg, hnm, Try.tf0, Try.tf1, Try.tf2, Try.tf3, Try.tf4, Try.tf5, Try.tf6, Try.tf7, Try.tf22, Try.tf28, Try.tf33, Try.tf34, Try.tf35, Try.tf49, Try.tf63, Try.tf65, Try.tf68, Try.tf70, Try.tf73, Try.teq79, Try.call25, Try.call32, Try.call36, Try.call37, Try.call38, hM]); repeat (refine And.intro (by omega) ?_))
    | ((with_reducible first | apply WL_nil | apply W_label | apply W_skip | apply W_exit | apply W_ret | apply popsD_done); try simp only [seqK, blockK, scopeK, ↓reduceIte, Nat.reduceEqDiff])
    | with_reducible exact popsD_stop
    | (with_reducible apply pguard_intro <;> (intro hc; (try simp only [hcb, reduceCtorEq, forall_const, ne_eq] at hc); first | (exfalso; omega) | (exfalso; exact hc trivial) | refine Ev_in ?_))
    | (with_reducible apply W_cond_k; intro _ _ ea eb; (simp only [condK, cob, opnd, constPV, Nat.reduceEqDiff, Nat.reduceLT, ↓reduceIte, hcb, reduceCtorEq, forall_const, ne_eq]); subst ea eb; first | (refine ⟨fun hc => ?_, fun hc => ?_⟩ <;> first | (exfalso; omega) | (exfalso; exact hc trivial) | skip) | skip)
    | (with_reducible apply hnx; clear hnx nx)
    | (with_reducible refine And.intro (by omega) ?_)
    | (with_reducible refine And.intro ?_ ?_)
    | (with_reducible refine pcall_k (c1) ?_; rintro _ _ ⟨rfl, rfl⟩ -; refine Ev_in ?_)
    | (clear hnx nx; with_reducible apply hnx; clear hnx nx)
    | (clear hnx nx; clear hnx nx; with_reducible apply hnx; clear hnx nx)
    | (clear hnx nx; clear hnx nx; clear hnx nx; with_reducible apply hnx; clear hnx nx))
  all_goals first
    | (exfalso
       omega)
    | skip
  refine pcall_k c2 ?_
  rintro _ _ ⟨rfl, ⟨h1, a, b, c, hc, rfl⟩ | ⟨h1, rfl⟩⟩ -
  · have hone : c.one = true ∧ c.cells = [c] := by
      rcases hc with rfl | ⟨l, rfl⟩
      · exact ⟨rfl, rfl⟩
      · exact ⟨rfl, rfl⟩
    clear hc
    refine Ev_in ?_
    repeat' (first
    | (with_reducible apply W_seq_k; intro nx hnx)
    | (with_reducible first | apply W_block | apply W_scope)
    | (with_reducible refine W_prune 6131 ?_; simp only [prb, Nat.reducePow, Nat.reduceDiv, Nat.reduceMod, Nat.reduceBEq]; first | (with_reducible apply W_region_l) | with_reducible refine W_region_draw (id := 9) 1 (.op 0 true (.op 1 true (.op 2 true (.op 3 true (.op 4 true (.op 5 true (.op 6 true (.op 7 true (.op 8 true (.op 9 true (.op 10 true (.op 11 true (.op 12 true (.op 13 true (.op 14 true (.op 15 true (.op 16 true (.op 17 true (.op 18 true (.op 19 true (.op 20 true (.op 21 true (.op 22 true (.done)))))))))))))))))))))))) (by kernel_rfl) ?_ | with_reducible refine W_region_draw (id := 11) 1 (.op 0 true (.op 1 true (.op 2 true (.op 3 true (.op 4 true (.op 5 true (.op 6 true (.op 7 true (.done))))))))) (by kernel_rfl) ?_ | with_reducible refine W_region_draw (id := 18) 1 (.op 0 true (.op 1 true (.op 2 true (.op 3 true (.op 4 true (.op 5 true (.op 6 true (.op 7 true (.op 8 true (.op 9 true (.op 10 true (.op 11 true (.done))))))))))))) (by kernel_rfl) ?_ | with_reducible refine W_region_draw (id := 19) 1 (.op 0 true (.op 1 true (.op 2 true (.op 3 true (.op 4 true (.op 5 true (.op 6 true (.op 7 true (.op 8 true (.op 9 true (.op 10 true (.done)))))))))))) (by kernel_rfl) ?_ | with_reducible refine W_region_draw (id := 20) 1 (.op 0 true (.op 1 true (.op 2 true (.op 3 true (.op 4 true (.op 5 true (.op 6 true (.op 7 true (.op 8 true (.op 9 false (.done))))))))))) (by kernel_rfl) ?_)
    | ((first | (with_reducible apply WL_op; intro nx hnx) | with_reducible refine Ev_out ?_ | (with_reducible apply popsD_op; intro nx hnx) | (with_reducible refine popsD_alt ?_ ?_; intro nx hnx) | (with_reducible refine pfresh_k hnm fun nm hnm => ?_; (try simp only [fmb] at hnm)) | (with_reducible refine pborn_mu hnm fun nm hnm => ?_; (try simp only [fmb] at hnm)) | (with_reducible refine pmaybe_k ?_; intro bn hbn)); try (simp (maxSteps := 2000000) (disch := omega) only [evb, evd, pbuiltin, constPV, pnck, seqK, blockK, scopeK, pbin, pun, ppick, plen, piaddr, pindex, pfield, pslice, pbound, pconv, pelems, pextract, pmm, PV.mem?, PV.one, PV.cells, pageq, peqs, peq1, pmakes, pstore, pbytes, pmark, psrc, pkey, pnile, pcap, pgrow, List.set, Value.cells, ↓popG_eq, ↓pop.eq_1, ↓List.getElem?_map, ↓List.getElem?_cons_zero, ↓List.getElem?_cons_succ, Value.oneCell', Nat.reduceAdd, Nat.reduceMul, Nat.reduceSub, Nat.reduceLeDiff, Nat.reduceEqDiff, ↓reduceIte, ne_eq, reduceCtorEq, forall_const, exists_and_left, exists_eq_left', eq_self, Nat.reduceLT, Int.reduceLT, Int.reduceLE, Int.reduceToNat, Int.reduceAdd, Int.reduceSub, Int.reduceNeg, hnm, Try.tf0, Try.tf1, Try.tf2, Try.tf3, Try.tf4, Try.tf5, Try.tf6, Try.tf7, Try.tf22, Try.tf28, Try.tf33, Try.tf34, Try.tf35, Try.tf49, Try.tf63, Try.tf65, Try.tf68, Try.tf70, Try.tf73, Try.teq79, Try.call25, Try.call32, Try.call36, Try.call37, Try.call38, hM, hone]); repeat (refine And.intro (by omega) ?_))
    | ((with_reducible first | apply WL_nil | apply W_label | apply W_skip | apply W_exit | apply W_ret | apply popsD_done); try simp only [seqK, blockK, scopeK, ↓reduceIte, Nat.reduceEqDiff])
    | with_reducible exact popsD_stop
    | (with_reducible apply pguard_intro <;> (intro hc; (try simp only [hcb, reduceCtorEq, forall_const, ne_eq] at hc); first | (exfalso; omega) | (exfalso; exact hc trivial) | refine Ev_in ?_))
    | (with_reducible apply W_cond_k; intro _ _ ea eb; (simp only [condK, cob, opnd, constPV, Nat.reduceEqDiff, Nat.reduceLT, ↓reduceIte, hcb, reduceCtorEq, forall_const, ne_eq]); subst ea eb; first | (refine ⟨fun hc => ?_, fun hc => ?_⟩ <;> first | (exfalso; omega) | (exfalso; exact hc trivial) | skip) | skip)
    | (with_reducible apply hnx; clear hnx nx)
    | (with_reducible refine And.intro (by omega) ?_)
    | (with_reducible refine And.intro ?_ ?_)
    | (clear hnx nx; with_reducible apply hnx; clear hnx nx)
    | (clear hnx nx; clear hnx nx; with_reducible apply hnx; clear hnx nx)
    | (clear hnx nx; clear hnx nx; clear hnx nx; with_reducible apply hnx; clear hnx nx))
    · exact hone.1
    · refine hfin _ _ (Fin_ret2 rfl rfl (H := endO e w m s) ⟨fun x hx => .tail _ hx, nd⟩ ⟨.inl ⟨rfl, ?_⟩, w, m, rfl⟩)
      simp only [fr_getD_cons, Nat.reduceEqDiff, Nat.reduceLT, ↓reduceIte]
  · rw [hr] at h1
    cases h1
set_option maxRecDepth 100000 in
set_option maxHeartbeats 8000000 in
theorem in_take (G : Globs) (e : Int) (s : LE) (x : List UInt8) (hx : x.length ≤ 4294900000) (hs : OkE s) (Hin : Heap) (hH : IsEnd e s Hin) (ho : (openF s.key x).2 = 0) (hr : (readF (openF s.key x).1).2 = true) :
    PCalls Try.prog G 19 [.ptr e 0, pl x] Hin (InR0 e (inL s x)) := by
  obtain ⟨w, m, rfl⟩ := hH
  obtain ⟨hs1, hs2, hs3, hs4⟩ := hs
  refine PCalls.nd fun nd => ?_
  have hM := end_nd nd
  have c1 := Open_c G s.key x hx
  have c2 := read_c2 G (openF s.key x).1 (Nat.le_trans (openF_len _ _) hx)
  have hX : inL s x = (((takeL s (readF (openF s.key x).1).1).1, 0), (takeL s (readF (openF s.key x).1).1).2) := by
    unfold inL
    rw [if_neg (by omega), if_neg (by omega), if_neg (by rw [hr]; simp)]
  have hok := readF_ok hr
  rw [hX]
  clear hX
  generalize openF s.key x = o at *
  obtain ⟨c, f⟩ := o
  simp only at *
  subst ho
  generalize readF c = r at *
  obtain ⟨⟨q, a, b⟩, k⟩ := r
  simp only at *
  subst hr
  obtain ⟨h0, h1, hb⟩ := hok
  obtain ⟨q, rfl⟩ := Int.eq_ofNat_of_zero_le h0
  obtain ⟨a, rfl⟩ := Int.eq_ofNat_of_zero_le h1
  clear h0 h1
  have c2 : PCalls Try.prog G 36 [pl c] [] (fun res H => res = .tuple [.agg [pint .i64 q, pint .i64 a, pl b], pbool true] ∧ H = []) := by
    refine c2.mono ?_
    rintro _ _ ⟨rfl, ⟨h1, _⟩ | ⟨h1, rfl⟩⟩
    · cases h1
    · exact ⟨rfl, rfl⟩
  have c3 := clone_c G b (by omega)
  unfold takeL
  simp only [Int.toNat_natCast]
  by_cases hbad : s.acked + s.wait.length < a ∨ s.got + 16 < q
  · rw [if_pos hbad]
    (refine PCalls_f Try.func19 rfl Try.ntmps19 Try.results19 (by simp) fun fin hfin => ?_; have hnm : True := trivial; simp (maxSteps := 2000000) (disch := omega) only [evb, evd, pbuiltin, constPV, pnck, seqK, blockK, scopeK, pbin, pun, ppick, plen, piaddr, pindex, pfield, pslice, pbound, pconv, pelems, pextract, pmm, PV.mem?, PV.one, PV.cells, pageq, peqs, peq1, pmakes, pstore, pbytes, pmark, psrc, pkey, pnile, pcap, pgrow, List.set, Value.cells, ↓popG_eq, ↓pop.eq_1, ↓List.getElem?_map, ↓List.getElem?_cons_zero, ↓List.getElem?_cons_succ, Value.oneCell', Nat.reduceAdd, Nat.reduceMul, Nat.reduceSub, Nat.reduceLeDiff, Nat.reduceEqDiff, ↓reduceIte, ne_eq, reduceCtorEq, forall_const, exists_and_left, exists_eq_left', eq_self, Nat.reduceLT, Int.reduceLT, Int.reduceLE, Int.reduceToNat, Int.reduceAdd, Int.reduceSub, Int.reduceNeg, hnm, Try.tf0, Try.tf1, Try.tf2, Try.tf3, Try.tf4, Try.tf5, Try.tf6, Try.tf7, Try.tf22, Try.tf28, Try.tf33, Try.tf34, Try.tf35, Try.tf49, Try.tf63, Try.tf65, Try.tf68, Try.tf70, Try.tf73, Try.teq79, Try.call25, Try.call32, Try.call36, Try.call37, Try.call38])
    repeat' (first
    | (with_reducible apply W_seq_k; intro nx hnx)
    | (with_reducible first | apply W_block | apply W_scope)
    | (with_reducible refine W_prune 6131 ?_; simp only [prb, Nat.reducePow, Nat.reduceDiv, Nat.reduceMod, Nat.reduceBEq]; first | (with_reducible apply W_region_l) | with_reducible refine W_region_draw (id := 9) 1 (.op 0 true (.op 1 true (.op 2 true (.op 3 true (.op 4 true (.op 5 true (.op 6 true (.op 7 true (.op 8 true (.op 9 true (.op 10 true (.op 11 true (.op 12 true (.op 13 true (.op 14 true (.op 15 true (.op 16 true (.op 17 true (.op 18 true (.op 19 true (.op 20 true (.op 21 true (.op 22 true (.done)))))))))))))))))))))))) (by kernel_rfl) ?_ | with_reducible refine W_region_draw (id := 11) 1 (.op 0 true (.op 1 true (.op 2 true (.op 3 true (.op 4 true (.op 5 true (.op 6 true (.op 7 true (.done))))))))) (by kernel_rfl) ?_ | with_reducible refine W_region_draw (id := 18) 1 (.op 0 true (.op 1 true (.op 2 true (.op 3 true (.op 4 true (.op 5 true (.op 6 true (.op 7 true (.op 8 true (.op 9 true (.op 10 true (.op 11 true (.done))))))))))))) (by kernel_rfl) ?_ | with_reducible refine W_region_draw (id := 19) 1 (.op 0 true (.op 1 true (.op 2 true (.op 3 true (.op 4 true (.op 5 true (.op 6 true (.op 7 true (.op 8 true (.op 9 true (.op 10 true (.done)))))))))))) (by kernel_rfl) ?_ | with_reducible refine W_region_draw (id := 20) 1 (.op 0 true (.op 1 true (.op 2 true (.op 3 true (.op 4 true (.op 5 true (.op 6 true (.op 7 true (.op 8 true (.op 9 false (.done))))))))))) (by kernel_rfl) ?_)
    | ((first | (with_reducible apply WL_op; intro nx hnx) | with_reducible refine Ev_out ?_ | (with_reducible apply popsD_op; intro nx hnx) | (with_reducible refine popsD_alt ?_ ?_; intro nx hnx) | (with_reducible refine pfresh_k hnm fun nm hnm => ?_; (try simp only [fmb] at hnm)) | (with_reducible refine pborn_mu hnm fun nm hnm => ?_; (try simp only [fmb] at hnm)) | (with_reducible refine pmaybe_k ?_; intro bn hbn)); try (simp (maxSteps := 2000000) (disch := omega) only [evb, evd, pbuiltin, constPV, pnck, seqK, blockK, scopeK, pbin, pun, ppick, plen, piaddr, pindex, pfield, pslice, pbound, pconv, pelems, pextract, pmm, PV.mem?, PV.one, PV.cells, pageq, peqs, peq1, pmakes, pstore, pbytes, pmark, psrc, pkey, pnile, pcap, pgrow, List.set, Value.cells, ↓popG_eq, ↓pop.eq_1, ↓List.getElem?_map, ↓List.getElem?_cons_zero, ↓List.getElem?_cons_succ, Value.oneCell', Nat.reduceAdd, Nat.reduceMul, Nat.reduceSub, Nat.reduceLeDiff, Nat.reduceEqDiff, ↓reduceIte, ne_eq, reduceCtorEq, forall_const, exists_and_left, exists_eq_left', eq_self, Nat.reduceLT, Int.reduceLT, Int.reduceLE, Int.reduceToNat, Int.reduceAdd, Int.reduceSub, Int.reduceNeg, hnm, Try.tf0, Try.tf1, Try.tf2, Try.tf3, Try.tf4, Try.tf5, Try.tf6, Try.tf7, Try.tf22, Try.tf28, Try.tf33, Try.tf34, Try.tf35, Try.tf49, Try.tf63, Try.tf65, Try.tf68, Try.tf70, Try.tf73, Try.teq79, Try.call25, Try.call32, Try.call36, Try.call37, Try.call38, hM]); repeat (refine And.intro (by omega) ?_))
    | ((with_reducible first | apply WL_nil | apply W_label | apply W_skip | apply W_exit | apply W_ret | apply popsD_done); try simp only [seqK, blockK, scopeK, ↓reduceIte, Nat.reduceEqDiff])
    | with_reducible exact popsD_stop
    | (with_reducible apply pguard_intro <;> (intro hc; (try simp only [hcb, reduceCtorEq, forall_const, ne_eq] at hc); first | (exfalso; omega) | (exfalso; exact hc trivial) | refine Ev_in ?_))
    | (with_reducible apply W_cond_k; intro _ _ ea eb; (simp only [condK, cob, opnd, constPV, Nat.reduceEqDiff, Nat.reduceLT, ↓reduceIte, hcb, reduceCtorEq, forall_const, ne_eq]); subst ea eb; first | (refine ⟨fun hc => ?_, fun hc => ?_⟩ <;> first | (exfalso; omega) | (exfalso; exact hc trivial) | skip) | skip)
    | (with_reducible apply hnx; clear hnx nx)
    | (with_reducible refine And.intro (by omega) ?_)
    | (with_reducible refine And.intro ?_ ?_)
    | (with_reducible refine pcall_k (c1) ?_; rintro _ _ ⟨rfl, rfl⟩ -; refine Ev_in ?_)
    | (with_reducible refine pcall_k (c2) ?_; rintro _ _ ⟨rfl, rfl⟩ -; refine Ev_in ?_)
    | (clear hnx nx; with_reducible apply hnx; clear hnx nx)
    | (clear hnx nx; clear hnx nx; with_reducible apply hnx; clear hnx nx)
    | (clear hnx nx; clear hnx nx; clear hnx nx; with_reducible apply hnx; clear hnx nx))
    all_goals first
      | (exfalso
         omega)
      | skip
    all_goals
      refine hfin _ _ (Fin_ret2 rfl rfl (H := endO e w m s) ⟨fun x hx => .tail _ hx, nd⟩ ⟨.inl ⟨rfl, ?_⟩, w, m, rfl⟩)
      simp only [fr_getD_cons, Nat.reduceEqDiff, Nat.reduceLT, ↓reduceIte]
  rw [if_neg hbad]
  by_cases ha : s.acked < a
  · have hA : ackL s a = { s with wait := s.wait.drop (a - s.acked), acked := a } := by rw [ackL, if_pos ha]
    have hwl : (s.wait.drop (a - s.acked)).length ≤ s.wait.length := by rw [List.length_drop]; omega
    have hsub : (a : Int) - s.acked = ((a - s.acked : Nat) : Int) := by omega
    have hD := delete_c G w (s.wait.map pl) s.wait.length (a - s.acked) (by simp) (by omega) (by omega)
    rw [← List.map_drop] at hD
    have hdl : s.wait.length - (a - s.acked) = (s.wait.drop (a - s.acked)).length := by rw [List.length_drop]
    rw [hdl] at hD
    clear hdl
    generalize s.wait.drop (a - s.acked) = wt at *
    rw [hA]
    by_cases hq0 : q = 0
    · subst hq0
      rw [if_pos rfl]
      (refine PCalls_f Try.func19 rfl Try.ntmps19 Try.results19 (by simp) fun fin hfin => ?_; have hnm : True := trivial; simp (maxSteps := 2000000) (disch := omega) only [evb, evd, pbuiltin, constPV, pnck, seqK, blockK, scopeK, pbin, pun, ppick, plen, piaddr, pindex, pfield, pslice, pbound, pconv, pelems, pextract, pmm, PV.mem?, PV.one, PV.cells, pageq, peqs, peq1, pmakes, pstore, pbytes, pmark, psrc, pkey, pnile, pcap, pgrow, List.set, Value.cells, ↓popG_eq, ↓pop.eq_1, ↓List.getElem?_map, ↓List.getElem?_cons_zero, ↓List.getElem?_cons_succ, Value.oneCell', Nat.reduceAdd, Nat.reduceMul, Nat.reduceSub, Nat.reduceLeDiff, Nat.reduceEqDiff, ↓reduceIte, ne_eq, reduceCtorEq, forall_const, exists_and_left, exists_eq_left', eq_self, Nat.reduceLT, Int.reduceLT, Int.reduceLE, Int.reduceToNat, Int.reduceAdd, Int.reduceSub, Int.reduceNeg, hnm, Try.tf0, Try.tf1, Try.tf2, Try.tf3, Try.tf4, Try.tf5, Try.tf6, Try.tf7, Try.tf22, Try.tf28, Try.tf33, Try.tf34, Try.tf35, Try.tf49, Try.tf63, Try.tf65, Try.tf68, Try.tf70, Try.tf73, Try.teq79, Try.call25, Try.call32, Try.call36, Try.call37, Try.call38])
      repeat' (first
    | (with_reducible apply W_seq_k; intro nx hnx)
    | (with_reducible first | apply W_block | apply W_scope)
    | (with_reducible refine W_prune 6131 ?_; simp only [prb, Nat.reducePow, Nat.reduceDiv, Nat.reduceMod, Nat.reduceBEq]; first | (with_reducible apply W_region_l) | with_reducible refine W_region_draw (id := 9) 1 (.op 0 true (.op 1 true (.op 2 true (.op 3 true (.op 4 true (.op 5 true (.op 6 true (.op 7 true (.op 8 true (.op 9 true (.op 10 true (.op 11 true (.op 12 true (.op 13 true (.op 14 true (.op 15 true (.op 16 true (.op 17 true (.op 18 true (.op 19 true (.op 20 true (.op 21 true (.op 22 true (.done)))))))))))))))))))))))) (by kernel_rfl) ?_ | with_reducible refine W_region_draw (id := 11) 1 (.op 0 true (.op 1 true (.op 2 true (.op 3 true (.op 4 true (.op 5 true (.op 6 true (.op 7 true (.done))))))))) (by kernel_rfl) ?_ | with_reducible refine W_region_draw (id := 18) 1 (.op 0 true (.op 1 true (.op 2 true (.op 3 true (.op 4 true (.op 5 true (.op 6 true (.op 7 true (.op 8 true (.op 9 true (.op 10 true (.op 11 true (.done))))))))))))) (by kernel_rfl) ?_ | with_reducible refine W_region_draw (id := 19) 1 (.op 0 true (.op 1 true (.op 2 true (.op 3 true (.op 4 true (.op 5 true (.op 6 true (.op 7 true (.op 8 true (.op 9 true (.op 10 true (.done)))))))))))) (by kernel_rfl) ?_ | with_reducible refine W_region_draw (id := 20) 1 (.op 0 true (.op 1 true (.op 2 true (.op 3 true (.op 4 true (.op 5 true (.op 6 true (.op 7 true (.op 8 true (.op 9 false (.done))))))))))) (by kernel_rfl) ?_)
    | ((first | (with_reducible apply WL_op; intro nx hnx) | with_reducible refine Ev_out ?_ | (with_reducible apply popsD_op; intro nx hnx) | (with_reducible refine popsD_alt ?_ ?_; intro nx hnx) | (with_reducible refine pfresh_k hnm fun nm hnm => ?_; (try simp only [fmb] at hnm)) | (with_reducible refine pborn_mu hnm fun nm hnm => ?_; (try simp only [fmb] at hnm)) | (with_reducible refine pmaybe_k ?_; intro bn hbn)); try (simp (maxSteps := 2000000) (disch := omega) only [evb, evd, pbuiltin, constPV, pnck, seqK, blockK, scopeK, pbin, pun, ppick, plen, piaddr, pindex, pfield, pslice, pbound, pconv, pelems, pextract, pmm, PV.mem?, PV.one, PV.cells, pageq, peqs, peq1, pmakes, pstore, pbytes, pmark, psrc, pkey, pnile, pcap, pgrow, List.set, Value.cells, ↓popG_eq, ↓pop.eq_1, ↓List.getElem?_map, ↓List.getElem?_cons_zero, ↓List.getElem?_cons_succ, Value.oneCell', Nat.reduceAdd, Nat.reduceMul, Nat.reduceSub, Nat.reduceLeDiff, Nat.reduceEqDiff, ↓reduceIte, ne_eq, reduceCtorEq, forall_const, exists_and_left, exists_eq_left', eq_self, Nat.reduceLT, Int.reduceLT, Int.reduceLE, Int.reduceToNat, Int.reduceAdd, Int.reduceSub, Int.reduceNeg, hnm, Try.tf0, Try.tf1, Try.tf2, Try.tf3, Try.tf4, Try.tf5, Try.tf6, Try.tf7, Try.tf22, Try.tf28, Try.tf33, Try.tf34, Try.tf35, Try.tf49, Try.tf63, Try.tf65, Try.tf68, Try.tf70, Try.tf73, Try.teq79, Try.call25, Try.call32, Try.call36, Try.call37, Try.call38, hM, hsub]); repeat (refine And.intro (by omega) ?_))
    | ((with_reducible first | apply WL_nil | apply W_label | apply W_skip | apply W_exit | apply W_ret | apply popsD_done); try simp only [seqK, blockK, scopeK, ↓reduceIte, Nat.reduceEqDiff])
    | with_reducible exact popsD_stop
    | (with_reducible apply pguard_intro <;> (intro hc; (try simp only [hcb, reduceCtorEq, forall_const, ne_eq] at hc); first | (exfalso; omega) | (exfalso; exact hc trivial) | refine Ev_in ?_))
    | (with_reducible apply W_cond_k; intro _ _ ea eb; (simp only [condK, cob, opnd, constPV, Nat.reduceEqDiff, Nat.reduceLT, ↓reduceIte, hcb, reduceCtorEq, forall_const, ne_eq]); subst ea eb; first | (refine ⟨fun hc => ?_, fun hc => ?_⟩ <;> first | (exfalso; omega) | (exfalso; exact hc trivial) | skip) | skip)
    | (with_reducible apply hnx; clear hnx nx)
    | (with_reducible refine And.intro (by omega) ?_)
    | (with_reducible refine And.intro ?_ ?_)
    | (with_reducible refine pcall_k (c1) ?_; rintro _ _ ⟨rfl, rfl⟩ -; refine Ev_in ?_)
    | (with_reducible refine pcall_k (c2) ?_; rintro _ _ ⟨rfl, rfl⟩ -; refine Ev_in ?_)
    | ((refine pcall_mid [_, _] [_] [_] rfl hD ?_; rintro _ _ ⟨rfl, rfl⟩; refine Ev_in ?_))
    | (clear hnx nx; with_reducible apply hnx; clear hnx nx)
    | (clear hnx nx; clear hnx nx; with_reducible apply hnx; clear hnx nx)
    | (clear hnx nx; clear hnx nx; clear hnx nx; with_reducible apply hnx; clear hnx nx))
      all_goals first
        | (exfalso
           omega)
        | skip
      refine hfin _ _ (Fin_ret2 rfl rfl (H := endO e w m { s with wait := wt, acked := a }) ⟨fun x hx => .tail _ hx, nd⟩ ⟨.inl ⟨rfl, ?_⟩, w, m, rfl⟩)
      simp only [fr_getD_cons, Nat.reduceEqDiff, Nat.reduceLT, ↓reduceIte]
    rw [if_neg hq0]
    cases hp : pull q s.held with
    | none =>
      have hm := pull_none 0 hp
      by_cases hq : s.got < q
      · have hX : holdL { s with wait := wt, acked := a } q b = {  s with wait := wt, acked := a , owing := true, held := s.held ++ [(q, b)] } := by
          rw [holdL, if_pos ⟨hq, hp⟩]
        rw [hX]
        clear hX
        have hE : entsP s.held ++ [.ent (pint .i64 q) (pl b)] = entsP (s.held ++ [(q, b)]) := by simp
        (refine PCalls_f Try.func19 rfl Try.ntmps19 Try.results19 (by simp) fun fin hfin => ?_; have hnm : True := trivial; simp (maxSteps := 2000000) (disch := omega) only [evb, evd, pbuiltin, constPV, pnck, seqK, blockK, scopeK, pbin, pun, ppick, plen, piaddr, pindex, pfield, pslice, pbound, pconv, pelems, pextract, pmm, PV.mem?, PV.one, PV.cells, pageq, peqs, peq1, pmakes, pstore, pbytes, pmark, psrc, pkey, pnile, pcap, pgrow, List.set, Value.cells, ↓popG_eq, ↓pop.eq_1, ↓List.getElem?_map, ↓List.getElem?_cons_zero, ↓List.getElem?_cons_succ, Value.oneCell', Nat.reduceAdd, Nat.reduceMul, Nat.reduceSub, Nat.reduceLeDiff, Nat.reduceEqDiff, ↓reduceIte, ne_eq, reduceCtorEq, forall_const, exists_and_left, exists_eq_left', eq_self, Nat.reduceLT, Int.reduceLT, Int.reduceLE, Int.reduceToNat, Int.reduceAdd, Int.reduceSub, Int.reduceNeg, hnm, Try.tf0, Try.tf1, Try.tf2, Try.tf3, Try.tf4, Try.tf5, Try.tf6, Try.tf7, Try.tf22, Try.tf28, Try.tf33, Try.tf34, Try.tf35, Try.tf49, Try.tf63, Try.tf65, Try.tf68, Try.tf70, Try.tf73, Try.teq79, Try.call25, Try.call32, Try.call36, Try.call37, Try.call38])
        repeat' (first
    | (with_reducible apply W_seq_k; intro nx hnx)
    | (with_reducible first | apply W_block | apply W_scope)
    | (with_reducible refine W_prune 6131 ?_; simp only [prb, Nat.reducePow, Nat.reduceDiv, Nat.reduceMod, Nat.reduceBEq]; first | (with_reducible apply W_region_l) | with_reducible refine W_region_draw (id := 9) 1 (.op 0 true (.op 1 true (.op 2 true (.op 3 true (.op 4 true (.op 5 true (.op 6 true (.op 7 true (.op 8 true (.op 9 true (.op 10 true (.op 11 true (.op 12 true (.op 13 true (.op 14 true (.op 15 true (.op 16 true (.op 17 true (.op 18 true (.op 19 true (.op 20 true (.op 21 true (.op 22 true (.done)))))))))))))))))))))))) (by kernel_rfl) ?_ | with_reducible refine W_region_draw (id := 11) 1 (.op 0 true (.op 1 true (.op 2 true (.op 3 true (.op 4 true (.op 5 true (.op 6 true (.op 7 true (.done))))))))) (by kernel_rfl) ?_ | with_reducible refine W_region_draw (id := 18) 1 (.op 0 true (.op 1 true (.op 2 true (.op 3 true (.op 4 true (.op 5 true (.op 6 true (.op 7 true (.op 8 true (.op 9 true (.op 10 true (.op 11 true (.done))))))))))))) (by kernel_rfl) ?_ | with_reducible refine W_region_draw (id := 19) 1 (.op 0 true (.op 1 true (.op 2 true (.op 3 true (.op 4 true (.op 5 true (.op 6 true (.op 7 true (.op 8 true (.op 9 true (.op 10 true (.done)))))))))))) (by kernel_rfl) ?_ | with_reducible refine W_region_draw (id := 20) 1 (.op 0 true (.op 1 true (.op 2 true (.op 3 true (.op 4 true (.op 5 true (.op 6 true (.op 7 true (.op 8 true (.op 9 false (.done))))))))))) (by kernel_rfl) ?_)
    | ((first | (with_reducible apply WL_op; intro nx hnx) | with_reducible refine Ev_out ?_ | (with_reducible apply popsD_op; intro nx hnx) | (with_reducible refine popsD_alt ?_ ?_; intro nx hnx) | (with_reducible refine pfresh_k hnm fun nm hnm => ?_; (try simp only [fmb] at hnm)) | (with_reducible refine pborn_mu hnm fun nm hnm => ?_; (try simp only [fmb] at hnm)) | (with_reducible refine pmaybe_k ?_; intro bn hbn)); try (simp (maxSteps := 2000000) (disch := omega) only [evb, evd, pbuiltin, constPV, pnck, seqK, blockK, scopeK, pbin, pun, ppick, plen, piaddr, pindex, pfield, pslice, pbound, pconv, pelems, pextract, pmm, PV.mem?, PV.one, PV.cells, pageq, peqs, peq1, pmakes, pstore, pbytes, pmark, psrc, pkey, pnile, pcap, pgrow, List.set, Value.cells, ↓popG_eq, ↓pop.eq_1, ↓List.getElem?_map, ↓List.getElem?_cons_zero, ↓List.getElem?_cons_succ, Value.oneCell', Nat.reduceAdd, Nat.reduceMul, Nat.reduceSub, Nat.reduceLeDiff, Nat.reduceEqDiff, ↓reduceIte, ne_eq, reduceCtorEq, forall_const, exists_and_left, exists_eq_left', eq_self, Nat.reduceLT, Int.reduceLT, Int.reduceLE, Int.reduceToNat, Int.reduceAdd, Int.reduceSub, Int.reduceNeg, hnm, Try.tf0, Try.tf1, Try.tf2, Try.tf3, Try.tf4, Try.tf5, Try.tf6, Try.tf7, Try.tf22, Try.tf28, Try.tf33, Try.tf34, Try.tf35, Try.tf49, Try.tf63, Try.tf65, Try.tf68, Try.tf70, Try.tf73, Try.teq79, Try.call25, Try.call32, Try.call36, Try.call37, Try.call38, hM, hm, hE, hsub]); repeat (refine And.intro (by omega) ?_))
    | ((with_reducible first | apply WL_nil | apply W_label | apply W_skip | apply W_exit | apply W_ret | apply popsD_done); try simp only [seqK, blockK, scopeK, ↓reduceIte, Nat.reduceEqDiff])
    | with_reducible exact popsD_stop
    | (with_reducible apply pguard_intro <;> (intro hc; (try simp only [hcb, reduceCtorEq, forall_const, ne_eq] at hc); first | (exfalso; omega) | (exfalso; exact hc trivial) | refine Ev_in ?_))
    | (with_reducible apply W_cond_k; intro _ _ ea eb; (simp only [condK, cob, opnd, constPV, Nat.reduceEqDiff, Nat.reduceLT, ↓reduceIte, hcb, reduceCtorEq, forall_const, ne_eq]); subst ea eb; first | (refine ⟨fun hc => ?_, fun hc => ?_⟩ <;> first | (exfalso; omega) | (exfalso; exact hc trivial) | skip) | skip)
    | (with_reducible apply hnx; clear hnx nx)
    | (with_reducible refine And.intro (by omega) ?_)
    | (with_reducible refine And.intro ?_ ?_)
    | (with_reducible refine pcall_k (c1) ?_; rintro _ _ ⟨rfl, rfl⟩ -; refine Ev_in ?_)
    | (with_reducible refine pcall_k (c2) ?_; rintro _ _ ⟨rfl, rfl⟩ -; refine Ev_in ?_)
    | (with_reducible refine pcall_k (c3) ?_; rintro _ _ ⟨rfl, rfl⟩ -; refine Ev_in ?_)
    | ((refine pcall_mid [_, _] [_] [_] rfl hD ?_; rintro _ _ ⟨rfl, rfl⟩; refine Ev_in ?_))
    | ((refine pcall_mid [_] (endO e w m {  s with wait := wt, acked := a , owing := true, held := s.held ++ [(q, b)] }) [] rfl (deliver_c G e w m {  s with wait := wt, acked := a , owing := true, held := s.held ++ [(q, b)] } (by (try simp only [List.length_append, List.length_cons, List.length_nil]); omega) (by (try simp only [List.length_append, List.length_cons, List.length_nil]); omega)) ?_; rintro _ _ ⟨rfl, rfl⟩; refine Ev_in ?_))
    | (clear hnx nx; with_reducible apply hnx; clear hnx nx)
    | (clear hnx nx; clear hnx nx; with_reducible apply hnx; clear hnx nx)
    | (clear hnx nx; clear hnx nx; clear hnx nx; with_reducible apply hnx; clear hnx nx))
        all_goals first
          | (exfalso
             omega)
          | skip
        refine hfin _ _ (Fin_ret2 rfl rfl (H := endO e w m (delL {  s with wait := wt, acked := a , owing := true, held := s.held ++ [(q, b)] }).2) ⟨fun x hx => .tail _ hx, nd⟩ ⟨.inr ?_, w, m, rfl⟩)
        simp only [fr_getD_cons, Nat.reduceEqDiff, Nat.reduceLT, ↓reduceIte]
      · have hX : holdL { s with wait := wt, acked := a } q b = {  s with wait := wt, acked := a , owing := true } := by
          rw [holdL, if_neg (fun h => hq h.1)]
        rw [hX]
        clear hX
        (refine PCalls_f Try.func19 rfl Try.ntmps19 Try.results19 (by simp) fun fin hfin => ?_; have hnm : True := trivial; simp (maxSteps := 2000000) (disch := omega) only [evb, evd, pbuiltin, constPV, pnck, seqK, blockK, scopeK, pbin, pun, ppick, plen, piaddr, pindex, pfield, pslice, pbound, pconv, pelems, pextract, pmm, PV.mem?, PV.one, PV.cells, pageq, peqs, peq1, pmakes, pstore, pbytes, pmark, psrc, pkey, pnile, pcap, pgrow, List.set, Value.cells, ↓popG_eq, ↓pop.eq_1, ↓List.getElem?_map, ↓List.getElem?_cons_zero, ↓List.getElem?_cons_succ, Value.oneCell', Nat.reduceAdd, Nat.reduceMul, Nat.reduceSub, Nat.reduceLeDiff, Nat.reduceEqDiff, ↓reduceIte, ne_eq, reduceCtorEq, forall_const, exists_and_left, exists_eq_left', eq_self, Nat.reduceLT, Int.reduceLT, Int.reduceLE, Int.reduceToNat, Int.reduceAdd, Int.reduceSub, Int.reduceNeg, hnm, Try.tf0, Try.tf1, Try.tf2, Try.tf3, Try.tf4, Try.tf5, Try.tf6, Try.tf7, Try.tf22, Try.tf28, Try.tf33, Try.tf34, Try.tf35, Try.tf49, Try.tf63, Try.tf65, Try.tf68, Try.tf70, Try.tf73, Try.teq79, Try.call25, Try.call32, Try.call36, Try.call37, Try.call38])
        repeat' (first
    | (with_reducible apply W_seq_k; intro nx hnx)
    | (with_reducible first | apply W_block | apply W_scope)
    | (with_reducible refine W_prune 6131 ?_; simp only [prb, Nat.reducePow, Nat.reduceDiv, Nat.reduceMod, Nat.reduceBEq]; first | (with_reducible apply W_region_l) | with_reducible refine W_region_draw (id := 9) 1 (.op 0 true (.op 1 true (.op 2 true (.op 3 true (.op 4 true (.op 5 true (.op 6 true (.op 7 true (.op 8 true (.op 9 true (.op 10 true (.op 11 true (.op 12 true (.op 13 true (.op 14 true (.op 15 true (.op 16 true (.op 17 true (.op 18 true (.op 19 true (.op 20 true (.op 21 true (.op 22 true (.done)))))))))))))))))))))))) (by kernel_rfl) ?_ | with_reducible refine W_region_draw (id := 11) 1 (.op 0 true (.op 1 true (.op 2 true (.op 3 true (.op 4 true (.op 5 true (.op 6 true (.op 7 true (.done))))))))) (by kernel_rfl) ?_ | with_reducible refine W_region_draw (id := 18) 1 (.op 0 true (.op 1 true (.op 2 true (.op 3 true (.op 4 true (.op 5 true (.op 6 true (.op 7 true (.op 8 true (.op 9 true (.op 10 true (.op 11 true (.done))))))))))))) (by kernel_rfl) ?_ | with_reducible refine W_region_draw (id := 19) 1 (.op 0 true (.op 1 true (.op 2 true (.op 3 true (.op 4 true (.op 5 true (.op 6 true (.op 7 true (.op 8 true (.op 9 true (.op 10 true (.done)))))))))))) (by kernel_rfl) ?_ | with_reducible refine W_region_draw (id := 20) 1 (.op 0 true (.op 1 true (.op 2 true (.op 3 true (.op 4 true (.op 5 true (.op 6 true (.op 7 true (.op 8 true (.op 9 false (.done))))))))))) (by kernel_rfl) ?_)
    | ((first | (with_reducible apply WL_op; intro nx hnx) | with_reducible refine Ev_out ?_ | (with_reducible apply popsD_op; intro nx hnx) | (with_reducible refine popsD_alt ?_ ?_; intro nx hnx) | (with_reducible refine pfresh_k hnm fun nm hnm => ?_; (try simp only [fmb] at hnm)) | (with_reducible refine pborn_mu hnm fun nm hnm => ?_; (try simp only [fmb] at hnm)) | (with_reducible refine pmaybe_k ?_; intro bn hbn)); try (simp (maxSteps := 2000000) (disch := omega) only [evb, evd, pbuiltin, constPV, pnck, seqK, blockK, scopeK, pbin, pun, ppick, plen, piaddr, pindex, pfield, pslice, pbound, pconv, pelems, pextract, pmm, PV.mem?, PV.one, PV.cells, pageq, peqs, peq1, pmakes, pstore, pbytes, pmark, psrc, pkey, pnile, pcap, pgrow, List.set, Value.cells, ↓popG_eq, ↓pop.eq_1, ↓List.getElem?_map, ↓List.getElem?_cons_zero, ↓List.getElem?_cons_succ, Value.oneCell', Nat.reduceAdd, Nat.reduceMul, Nat.reduceSub, Nat.reduceLeDiff, Nat.reduceEqDiff, ↓reduceIte, ne_eq, reduceCtorEq, forall_const, exists_and_left, exists_eq_left', eq_self, Nat.reduceLT, Int.reduceLT, Int.reduceLE, Int.reduceToNat, Int.reduceAdd, Int.reduceSub, Int.reduceNeg, hnm, Try.tf0, Try.tf1, Try.tf2, Try.tf3, Try.tf4, Try.tf5, Try.tf6, Try.tf7, Try.tf22, Try.tf28, Try.tf33, Try.tf34, Try.tf35, Try.tf49, Try.tf63, Try.tf65, Try.tf68, Try.tf70, Try.tf73, Try.teq79, Try.call25, Try.call32, Try.call36, Try.call37, Try.call38, hM, hm, hsub]); repeat (refine And.intro (by omega) ?_))
    | ((with_reducible first | apply WL_nil | apply W_label | apply W_skip | apply W_exit | apply W_ret | apply popsD_done); try simp only [seqK, blockK, scopeK, ↓reduceIte, Nat.reduceEqDiff])
    | with_reducible exact popsD_stop
    | (with_reducible apply pguard_intro <;> (intro hc; (try simp only [hcb, reduceCtorEq, forall_const, ne_eq] at hc); first | (exfalso; omega) | (exfalso; exact hc trivial) | refine Ev_in ?_))
    | (with_reducible apply W_cond_k; intro _ _ ea eb; (simp only [condK, cob, opnd, constPV, Nat.reduceEqDiff, Nat.reduceLT, ↓reduceIte, hcb, reduceCtorEq, forall_const, ne_eq]); subst ea eb; first | (refine ⟨fun hc => ?_, fun hc => ?_⟩ <;> first | (exfalso; omega) | (exfalso; exact hc trivial) | skip) | skip)
    | (with_reducible apply hnx; clear hnx nx)
    | (with_reducible refine And.intro (by omega) ?_)
    | (with_reducible refine And.intro ?_ ?_)
    | (with_reducible refine pcall_k (c1) ?_; rintro _ _ ⟨rfl, rfl⟩ -; refine Ev_in ?_)
    | (with_reducible refine pcall_k (c2) ?_; rintro _ _ ⟨rfl, rfl⟩ -; refine Ev_in ?_)
    | (with_reducible refine pcall_k (c3) ?_; rintro _ _ ⟨rfl, rfl⟩ -; refine Ev_in ?_)
    | ((refine pcall_mid [_, _] [_] [_] rfl hD ?_; rintro _ _ ⟨rfl, rfl⟩; refine Ev_in ?_))
    | ((refine pcall_mid [_] (endO e w m {  s with wait := wt, acked := a , owing := true }) [] rfl (deliver_c G e w m {  s with wait := wt, acked := a , owing := true } (by (try simp only [List.length_append, List.length_cons, List.length_nil]); omega) (by (try simp only [List.length_append, List.length_cons, List.length_nil]); omega)) ?_; rintro _ _ ⟨rfl, rfl⟩; refine Ev_in ?_))
    | (clear hnx nx; with_reducible apply hnx; clear hnx nx)
    | (clear hnx nx; clear hnx nx; with_reducible apply hnx; clear hnx nx)
    | (clear hnx nx; clear hnx nx; clear hnx nx; with_reducible apply hnx; clear hnx nx))
        all_goals first
          | (exfalso
             omega)
          | skip
        refine hfin _ _ (Fin_ret2 rfl rfl (H := endO e w m (delL {  s with wait := wt, acked := a , owing := true }).2) ⟨fun x hx => .tail _ hx, nd⟩ ⟨.inr ?_, w, m, rfl⟩)
        simp only [fr_getD_cons, Nat.reduceEqDiff, Nat.reduceLT, ↓reduceIte]
    | some y =>
      obtain ⟨y1, y2⟩ := y
      obtain ⟨j, hm, -, -, -⟩ := pull_some 0 hp
      have hX : holdL { s with wait := wt, acked := a } q b = {  s with wait := wt, acked := a , owing := true } := by
        rw [holdL, if_neg (fun h => by have := h.2; simp only [hp] at this; cases this)]
      rw [hX]
      clear hX
      (refine PCalls_f Try.func19 rfl Try.ntmps19 Try.results19 (by simp) fun fin hfin => ?_; have hnm : True := trivial; simp (maxSteps := 2000000) (disch := omega) only [evb, evd, pbuiltin, constPV, pnck, seqK, blockK, scopeK, pbin, pun, ppick, plen, piaddr, pindex, pfield, pslice, pbound, pconv, pelems, pextract, pmm, PV.mem?, PV.one, PV.cells, pageq, peqs, peq1, pmakes, pstore, pbytes, pmark, psrc, pkey, pnile, pcap, pgrow, List.set, Value.cells, ↓popG_eq, ↓pop.eq_1, ↓List.getElem?_map, ↓List.getElem?_cons_zero, ↓List.getElem?_cons_succ, Value.oneCell', Nat.reduceAdd, Nat.reduceMul, Nat.reduceSub, Nat.reduceLeDiff, Nat.reduceEqDiff, ↓reduceIte, ne_eq, reduceCtorEq, forall_const, exists_and_left, exists_eq_left', eq_self, Nat.reduceLT, Int.reduceLT, Int.reduceLE, Int.reduceToNat, Int.reduceAdd, Int.reduceSub, Int.reduceNeg, hnm, Try.tf0, Try.tf1, Try.tf2, Try.tf3, Try.tf4, Try.tf5, Try.tf6, Try.tf7, Try.tf22, Try.tf28, Try.tf33, Try.tf34, Try.tf35, Try.tf49, Try.tf63, Try.tf65, Try.tf68, Try.tf70, Try.tf73, Try.teq79, Try.call25, Try.call32, Try.call36, Try.call37, Try.call38])
      repeat' (first
    | (with_reducible apply W_seq_k; intro nx hnx)
    | (with_reducible first | apply W_block | apply W_scope)
    | (with_reducible refine W_prune 6131 ?_; simp only [prb, Nat.reducePow, Nat.reduceDiv, Nat.reduceMod, Nat.reduceBEq]; first | (with_reducible apply W_region_l) | with_reducible refine W_region_draw (id := 9) 1 (.op 0 true (.op 1 true (.op 2 true (.op 3 true (.op 4 true (.op 5 true (.op 6 true (.op 7 true (.op 8 true (.op 9 true (.op 10 true (.op 11 true (.op 12 true (.op 13 true (.op 14 true (.op 15 true (.op 16 true (.op 17 true (.op 18 true (.op 19 true (.op 20 true (.op 21 true (.op 22 true (.done)))))))))))))))))))))))) (by kernel_rfl) ?_ | with_reducible refine W_region_draw (id := 11) 1 (.op 0 true (.op 1 true (.op 2 true (.op 3 true (.op 4 true (.op 5 true (.op 6 true (.op 7 true (.done))))))))) (by kernel_rfl) ?_ | with_reducible refine W_region_draw (id := 18) 1 (.op 0 true (.op 1 true (.op 2 true (.op 3 true (.op 4 true (.op 5 true (.op 6 true (.op 7 true (.op 8 true (.op 9 true (.op 10 true (.op 11 true (.done))))))))))))) (by kernel_rfl) ?_ | with_reducible refine W_region_draw (id := 19) 1 (.op 0 true (.op 1 true (.op 2 true (.op 3 true (.op 4 true (.op 5 true (.op 6 true (.op 7 true (.op 8 true (.op 9 true (.op 10 true (.done)))))))))))) (by kernel_rfl) ?_ | with_reducible refine W_region_draw (id := 20) 1 (.op 0 true (.op 1 true (.op 2 true (.op 3 true (.op 4 true (.op 5 true (.op 6 true (.op 7 true (.op 8 true (.op 9 false (.done))))))))))) (by kernel_rfl) ?_)
    | ((first | (with_reducible apply WL_op; intro nx hnx) | with_reducible refine Ev_out ?_ | (with_reducible apply popsD_op; intro nx hnx) | (with_reducible refine popsD_alt ?_ ?_; intro nx hnx) | (with_reducible refine pfresh_k hnm fun nm hnm => ?_; (try simp only [fmb] at hnm)) | (with_reducible refine pborn_mu hnm fun nm hnm => ?_; (try simp only [fmb] at hnm)) | (with_reducible refine pmaybe_k ?_; intro bn hbn)); try (simp (maxSteps := 2000000) (disch := omega) only [evb, evd, pbuiltin, constPV, pnck, seqK, blockK, scopeK, pbin, pun, ppick, plen, piaddr, pindex, pfield, pslice, pbound, pconv, pelems, pextract, pmm, PV.mem?, PV.one, PV.cells, pageq, peqs, peq1, pmakes, pstore, pbytes, pmark, psrc, pkey, pnile, pcap, pgrow, List.set, Value.cells, ↓popG_eq, ↓pop.eq_1, ↓List.getElem?_map, ↓List.getElem?_cons_zero, ↓List.getElem?_cons_succ, Value.oneCell', Nat.reduceAdd, Nat.reduceMul, Nat.reduceSub, Nat.reduceLeDiff, Nat.reduceEqDiff, ↓reduceIte, ne_eq, reduceCtorEq, forall_const, exists_and_left, exists_eq_left', eq_self, Nat.reduceLT, Int.reduceLT, Int.reduceLE, Int.reduceToNat, Int.reduceAdd, Int.reduceSub, Int.reduceNeg, hnm, Try.tf0, Try.tf1, Try.tf2, Try.tf3, Try.tf4, Try.tf5, Try.tf6, Try.tf7, Try.tf22, Try.tf28, Try.tf33, Try.tf34, Try.tf35, Try.tf49, Try.tf63, Try.tf65, Try.tf68, Try.tf70, Try.tf73, Try.teq79, Try.call25, Try.call32, Try.call36, Try.call37, Try.call38, hM, hm, hsub]); repeat (refine And.intro (by omega) ?_))
    | ((with_reducible first | apply WL_nil | apply W_label | apply W_skip | apply W_exit | apply W_ret | apply popsD_done); try simp only [seqK, blockK, scopeK, ↓reduceIte, Nat.reduceEqDiff])
    | with_reducible exact popsD_stop
    | (with_reducible apply pguard_intro <;> (intro hc; (try simp only [hcb, reduceCtorEq, forall_const, ne_eq] at hc); first | (exfalso; omega) | (exfalso; exact hc trivial) | refine Ev_in ?_))
    | (with_reducible apply W_cond_k; intro _ _ ea eb; (simp only [condK, cob, opnd, constPV, Nat.reduceEqDiff, Nat.reduceLT, ↓reduceIte, hcb, reduceCtorEq, forall_const, ne_eq]); subst ea eb; first | (refine ⟨fun hc => ?_, fun hc => ?_⟩ <;> first | (exfalso; omega) | (exfalso; exact hc trivial) | skip) | skip)
    | (with_reducible apply hnx; clear hnx nx)
    | (with_reducible refine And.intro (by omega) ?_)
    | (with_reducible refine And.intro ?_ ?_)
    | (with_reducible refine pcall_k (c1) ?_; rintro _ _ ⟨rfl, rfl⟩ -; refine Ev_in ?_)
    | (with_reducible refine pcall_k (c2) ?_; rintro _ _ ⟨rfl, rfl⟩ -; refine Ev_in ?_)
    | (with_reducible refine pcall_k (c3) ?_; rintro _ _ ⟨rfl, rfl⟩ -; refine Ev_in ?_)
    | ((refine pcall_mid [_, _] [_] [_] rfl hD ?_; rintro _ _ ⟨rfl, rfl⟩; refine Ev_in ?_))
    | ((refine pcall_mid [_] (endO e w m {  s with wait := wt, acked := a , owing := true }) [] rfl (deliver_c G e w m {  s with wait := wt, acked := a , owing := true } (by (try simp only [List.length_append, List.length_cons, List.length_nil]); omega) (by (try simp only [List.length_append, List.length_cons, List.length_nil]); omega)) ?_; rintro _ _ ⟨rfl, rfl⟩; refine Ev_in ?_))
    | (clear hnx nx; with_reducible apply hnx; clear hnx nx)
    | (clear hnx nx; clear hnx nx; with_reducible apply hnx; clear hnx nx)
    | (clear hnx nx; clear hnx nx; clear hnx nx; with_reducible apply hnx; clear hnx nx))
      all_goals first
        | (exfalso
           omega)
        | skip
      all_goals
        refine hfin _ _ (Fin_ret2 rfl rfl (H := endO e w m (delL {  s with wait := wt, acked := a , owing := true }).2) ⟨fun x hx => .tail _ hx, nd⟩ ⟨.inr ?_, w, m, rfl⟩)
        simp only [fr_getD_cons, Nat.reduceEqDiff, Nat.reduceLT, ↓reduceIte]
  · have hA : ackL s a = s := by rw [ackL, if_neg ha]
    rw [hA]
    by_cases hq0 : q = 0
    · subst hq0
      rw [if_pos rfl]
      (refine PCalls_f Try.func19 rfl Try.ntmps19 Try.results19 (by simp) fun fin hfin => ?_; have hnm : True := trivial; simp (maxSteps := 2000000) (disch := omega) only [evb, evd, pbuiltin, constPV, pnck, seqK, blockK, scopeK, pbin, pun, ppick, plen, piaddr, pindex, pfield, pslice, pbound, pconv, pelems, pextract, pmm, PV.mem?, PV.one, PV.cells, pageq, peqs, peq1, pmakes, pstore, pbytes, pmark, psrc, pkey, pnile, pcap, pgrow, List.set, Value.cells, ↓popG_eq, ↓pop.eq_1, ↓List.getElem?_map, ↓List.getElem?_cons_zero, ↓List.getElem?_cons_succ, Value.oneCell', Nat.reduceAdd, Nat.reduceMul, Nat.reduceSub, Nat.reduceLeDiff, Nat.reduceEqDiff, ↓reduceIte, ne_eq, reduceCtorEq, forall_const, exists_and_left, exists_eq_left', eq_self, Nat.reduceLT, Int.reduceLT, Int.reduceLE, Int.reduceToNat, Int.reduceAdd, Int.reduceSub, Int.reduceNeg, hnm, Try.tf0, Try.tf1, Try.tf2, Try.tf3, Try.tf4, Try.tf5, Try.tf6, Try.tf7, Try.tf22, Try.tf28, Try.tf33, Try.tf34, Try.tf35, Try.tf49, Try.tf63, Try.tf65, Try.tf68, Try.tf70, Try.tf73, Try.teq79, Try.call25, Try.call32, Try.call36, Try.call37, Try.call38])
      repeat' (first
    | (with_reducible apply W_seq_k; intro nx hnx)
    | (with_reducible first | apply W_block | apply W_scope)
    | (with_reducible refine W_prune 6131 ?_; simp only [prb, Nat.reducePow, Nat.reduceDiv, Nat.reduceMod, Nat.reduceBEq]; first | (with_reducible apply W_region_l) | with_reducible refine W_region_draw (id := 9) 1 (.op 0 true (.op 1 true (.op 2 true (.op 3 true (.op 4 true (.op 5 true (.op 6 true (.op 7 true (.op 8 true (.op 9 true (.op 10 true (.op 11 true (.op 12 true (.op 13 true (.op 14 true (.op 15 true (.op 16 true (.op 17 true (.op 18 true (.op 19 true (.op 20 true (.op 21 true (.op 22 true (.done)))))))))))))))))))))))) (by kernel_rfl) ?_ | with_reducible refine W_region_draw (id := 11) 1 (.op 0 true (.op 1 true (.op 2 true (.op 3 true (.op 4 true (.op 5 true (.op 6 true (.op 7 true (.done))))))))) (by kernel_rfl) ?_ | with_reducible refine W_region_draw (id := 18) 1 (.op 0 true (.op 1 true (.op 2 true (.op 3 true (.op 4 true (.op 5 true (.op 6 true (.op 7 true (.op 8 true (.op 9 true (.op 10 true (.op 11 true (.done))))))))))))) (by kernel_rfl) ?_ | with_reducible refine W_region_draw (id := 19) 1 (.op 0 true (.op 1 true (.op 2 true (.op 3 true (.op 4 true (.op 5 true (.op 6 true (.op 7 true (.op 8 true (.op 9 true (.op 10 true (.done)))))))))))) (by kernel_rfl) ?_ | with_reducible refine W_region_draw (id := 20) 1 (.op 0 true (.op 1 true (.op 2 true (.op 3 true (.op 4 true (.op 5 true (.op 6 true (.op 7 true (.op 8 true (.op 9 false (.done))))))))))) (by kernel_rfl) ?_)
    | ((first | (with_reducible apply WL_op; intro nx hnx) | with_reducible refine Ev_out ?_ | (with_reducible apply popsD_op; intro nx hnx) | (with_reducible refine popsD_alt ?_ ?_; intro nx hnx) | (with_reducible refine pfresh_k hnm fun nm hnm => ?_; (try simp only [fmb] at hnm)) | (with_reducible refine pborn_mu hnm fun nm hnm => ?_; (try simp only [fmb] at hnm)) | (with_reducible refine pmaybe_k ?_; intro bn hbn)); try (simp (maxSteps := 2000000) (disch := omega) only [evb, evd, pbuiltin, constPV, pnck, seqK, blockK, scopeK, pbin, pun, ppick, plen, piaddr, pindex, pfield, pslice, pbound, pconv, pelems, pextract, pmm, PV.mem?, PV.one, PV.cells, pageq, peqs, peq1, pmakes, pstore, pbytes, pmark, psrc, pkey, pnile, pcap, pgrow, List.set, Value.cells, ↓popG_eq, ↓pop.eq_1, ↓List.getElem?_map, ↓List.getElem?_cons_zero, ↓List.getElem?_cons_succ, Value.oneCell', Nat.reduceAdd, Nat.reduceMul, Nat.reduceSub, Nat.reduceLeDiff, Nat.reduceEqDiff, ↓reduceIte, ne_eq, reduceCtorEq, forall_const, exists_and_left, exists_eq_left', eq_self, Nat.reduceLT, Int.reduceLT, Int.reduceLE, Int.reduceToNat, Int.reduceAdd, Int.reduceSub, Int.reduceNeg, hnm, Try.tf0, Try.tf1, Try.tf2, Try.tf3, Try.tf4, Try.tf5, Try.tf6, Try.tf7, Try.tf22, Try.tf28, Try.tf33, Try.tf34, Try.tf35, Try.tf49, Try.tf63, Try.tf65, Try.tf68, Try.tf70, Try.tf73, Try.teq79, Try.call25, Try.call32, Try.call36, Try.call37, Try.call38, hM]); repeat (refine And.intro (by omega) ?_))
    | ((with_reducible first | apply WL_nil | apply W_label | apply W_skip | apply W_exit | apply W_ret | apply popsD_done); try simp only [seqK, blockK, scopeK, ↓reduceIte, Nat.reduceEqDiff])
    | with_reducible exact popsD_stop
    | (with_reducible apply pguard_intro <;> (intro hc; (try simp only [hcb, reduceCtorEq, forall_const, ne_eq] at hc); first | (exfalso; omega) | (exfalso; exact hc trivial) | refine Ev_in ?_))
    | (with_reducible apply W_cond_k; intro _ _ ea eb; (simp only [condK, cob, opnd, constPV, Nat.reduceEqDiff, Nat.reduceLT, ↓reduceIte, hcb, reduceCtorEq, forall_const, ne_eq]); subst ea eb; first | (refine ⟨fun hc => ?_, fun hc => ?_⟩ <;> first | (exfalso; omega) | (exfalso; exact hc trivial) | skip) | skip)
    | (with_reducible apply hnx; clear hnx nx)
    | (with_reducible refine And.intro (by omega) ?_)
    | (with_reducible refine And.intro ?_ ?_)
    | (with_reducible refine pcall_k (c1) ?_; rintro _ _ ⟨rfl, rfl⟩ -; refine Ev_in ?_)
    | (with_reducible refine pcall_k (c2) ?_; rintro _ _ ⟨rfl, rfl⟩ -; refine Ev_in ?_)
    | (clear hnx nx; with_reducible apply hnx; clear hnx nx)
    | (clear hnx nx; clear hnx nx; with_reducible apply hnx; clear hnx nx)
    | (clear hnx nx; clear hnx nx; clear hnx nx; with_reducible apply hnx; clear hnx nx))
      all_goals first
        | (exfalso
           omega)
        | skip
      refine hfin _ _ (Fin_ret2 rfl rfl (H := endO e w m s) ⟨fun x hx => .tail _ hx, nd⟩ ⟨.inl ⟨rfl, ?_⟩, w, m, rfl⟩)
      simp only [fr_getD_cons, Nat.reduceEqDiff, Nat.reduceLT, ↓reduceIte]
    rw [if_neg hq0]
    cases hp : pull q s.held with
    | none =>
      have hm := pull_none 0 hp
      by_cases hq : s.got < q
      · have hX : holdL s q b = { s with owing := true, held := s.held ++ [(q, b)] } := by
          rw [holdL, if_pos ⟨hq, hp⟩]
        rw [hX]
        clear hX
        have hE : entsP s.held ++ [.ent (pint .i64 q) (pl b)] = entsP (s.held ++ [(q, b)]) := by simp
        (refine PCalls_f Try.func19 rfl Try.ntmps19 Try.results19 (by simp) fun fin hfin => ?_; have hnm : True := trivial; simp (maxSteps := 2000000) (disch := omega) only [evb, evd, pbuiltin, constPV, pnck, seqK, blockK, scopeK, pbin, pun, ppick, plen, piaddr, pindex, pfield, pslice, pbound, pconv, pelems, pextract, pmm, PV.mem?, PV.one, PV.cells, pageq, peqs, peq1, pmakes, pstore, pbytes, pmark, psrc, pkey, pnile, pcap, pgrow, List.set, Value.cells, ↓popG_eq, ↓pop.eq_1, ↓List.getElem?_map, ↓List.getElem?_cons_zero, ↓List.getElem?_cons_succ, Value.oneCell', Nat.reduceAdd, Nat.reduceMul, Nat.reduceSub, Nat.reduceLeDiff, Nat.reduceEqDiff, ↓reduceIte, ne_eq, reduceCtorEq, forall_const, exists_and_left, exists_eq_left', eq_self, Nat.reduceLT, Int.reduceLT, Int.reduceLE, Int.reduceToNat, Int.reduceAdd, Int.reduceSub, Int.reduceNeg, hnm, Try.tf0, Try.tf1, Try.tf2, Try.tf3, Try.tf4, Try.tf5, Try.tf6, Try.tf7, Try.tf22, Try.tf28, Try.tf33, Try.tf34, Try.tf35, Try.tf49, Try.tf63, Try.tf65, Try.tf68, Try.tf70, Try.tf73, Try.teq79, Try.call25, Try.call32, Try.call36, Try.call37, Try.call38])
        repeat' (first
    | (with_reducible apply W_seq_k; intro nx hnx)
    | (with_reducible first | apply W_block | apply W_scope)
    | (with_reducible refine W_prune 6131 ?_; simp only [prb, Nat.reducePow, Nat.reduceDiv, Nat.reduceMod, Nat.reduceBEq]; first | (with_reducible apply W_region_l) | with_reducible refine W_region_draw (id := 9) 1 (.op 0 true (.op 1 true (.op 2 true (.op 3 true (.op 4 true (.op 5 true (.op 6 true (.op 7 true (.op 8 true (.op 9 true (.op 10 true (.op 11 true (.op 12 true (.op 13 true (.op 14 true (.op 15 true (.op 16 true (.op 17 true (.op 18 true (.op 19 true (.op 20 true (.op 21 true (.op 22 true (.done)))))))))))))))))))))))) (by kernel_rfl) ?_ | with_reducible refine W_region_draw (id := 11) 1 (.op 0 true (.op 1 true (.op 2 true (.op 3 true (.op 4 true (.op 5 true (.op 6 true (.op 7 true (.done))))))))) (by kernel_rfl) ?_ | with_reducible refine W_region_draw (id := 18) 1 (.op 0 true (.op 1 true (.op 2 true (.op 3 true (.op 4 true (.op 5 true (.op 6 true (.op 7 true (.op 8 true (.op 9 true (.op 10 true (.op 11 true (.done))))))))))))) (by kernel_rfl) ?_ | with_reducible refine W_region_draw (id := 19) 1 (.op 0 true (.op 1 true (.op 2 true (.op 3 true (.op 4 true (.op 5 true (.op 6 true (.op 7 true (.op 8 true (.op 9 true (.op 10 true (.done)))))))))))) (by kernel_rfl) ?_ | with_reducible refine W_region_draw (id := 20) 1 (.op 0 true (.op 1 true (.op 2 true (.op 3 true (.op 4 true (.op 5 true (.op 6 true (.op 7 true (.op 8 true (.op 9 false (.done))))))))))) (by kernel_rfl) ?_)
    | ((first | (with_reducible apply WL_op; intro nx hnx) | with_reducible refine Ev_out ?_ | (with_reducible apply popsD_op; intro nx hnx) | (with_reducible refine popsD_alt ?_ ?_; intro nx hnx) | (with_reducible refine pfresh_k hnm fun nm hnm => ?_; (try simp only [fmb] at hnm)) | (with_reducible refine pborn_mu hnm fun nm hnm => ?_; (try simp only [fmb] at hnm)) | (with_reducible refine pmaybe_k ?_; intro bn hbn)); try (simp (maxSteps := 2000000) (disch := omega) only [evb, evd, pbuiltin, constPV, pnck, seqK, blockK, scopeK, pbin, pun, ppick, plen, piaddr, pindex, pfield, pslice, pbound, pconv, pelems, pextract, pmm, PV.mem?, PV.one, PV.cells, pageq, peqs, peq1, pmakes, pstore, pbytes, pmark, psrc, pkey, pnile, pcap, pgrow, List.set, Value.cells, ↓popG_eq, ↓pop.eq_1, ↓List.getElem?_map, ↓List.getElem?_cons_zero, ↓List.getElem?_cons_succ, Value.oneCell', Nat.reduceAdd, Nat.reduceMul, Nat.reduceSub, Nat.reduceLeDiff, Nat.reduceEqDiff, ↓reduceIte, ne_eq, reduceCtorEq, forall_const, exists_and_left, exists_eq_left', eq_self, Nat.reduceLT, Int.reduceLT, Int.reduceLE, Int.reduceToNat, Int.reduceAdd, Int.reduceSub, Int.reduceNeg, hnm, Try.tf0, Try.tf1, Try.tf2, Try.tf3, Try.tf4, Try.tf5, Try.tf6, Try.tf7, Try.tf22, Try.tf28, Try.tf33, Try.tf34, Try.tf35, Try.tf49, Try.tf63, Try.tf65, Try.tf68, Try.tf70, Try.tf73, Try.teq79, Try.call25, Try.call32, Try.call36, Try.call37, Try.call38, hM, hm, hE]); repeat (refine And.intro (by omega) ?_))
    | ((with_reducible first | apply WL_nil | apply W_label | apply W_skip | apply W_exit | apply W_ret | apply popsD_done); try simp only [seqK, blockK, scopeK, ↓reduceIte, Nat.reduceEqDiff])
    | with_reducible exact popsD_stop
    | (with_reducible apply pguard_intro <;> (intro hc; (try simp only [hcb, reduceCtorEq, forall_const, ne_eq] at hc); first | (exfalso; omega) | (exfalso; exact hc trivial) | refine Ev_in ?_))
    | (with_reducible apply W_cond_k; intro _ _ ea eb; (simp only [condK, cob, opnd, constPV, Nat.reduceEqDiff, Nat.reduceLT, ↓reduceIte, hcb, reduceCtorEq, forall_const, ne_eq]); subst ea eb; first | (refine ⟨fun hc => ?_, fun hc => ?_⟩ <;> first | (exfalso; omega) | (exfalso; exact hc trivial) | skip) | skip)
    | (with_reducible apply hnx; clear hnx nx)
    | (with_reducible refine And.intro (by omega) ?_)
    | (with_reducible refine And.intro ?_ ?_)
    | (with_reducible refine pcall_k (c1) ?_; rintro _ _ ⟨rfl, rfl⟩ -; refine Ev_in ?_)
    | (with_reducible refine pcall_k (c2) ?_; rintro _ _ ⟨rfl, rfl⟩ -; refine Ev_in ?_)
    | (with_reducible refine pcall_k (c3) ?_; rintro _ _ ⟨rfl, rfl⟩ -; refine Ev_in ?_)
    | ((refine pcall_mid [_] (endO e w m { s with owing := true, held := s.held ++ [(q, b)] }) [] rfl (deliver_c G e w m { s with owing := true, held := s.held ++ [(q, b)] } (by (try simp only [List.length_append, List.length_cons, List.length_nil]); omega) (by (try simp only [List.length_append, List.length_cons, List.length_nil]); omega)) ?_; rintro _ _ ⟨rfl, rfl⟩; refine Ev_in ?_))
    | (clear hnx nx; with_reducible apply hnx; clear hnx nx)
    | (clear hnx nx; clear hnx nx; with_reducible apply hnx; clear hnx nx)
    | (clear hnx nx; clear hnx nx; clear hnx nx; with_reducible apply hnx; clear hnx nx))
        all_goals first
          | (exfalso
             omega)
          | skip
        refine hfin _ _ (Fin_ret2 rfl rfl (H := endO e w m (delL { s with owing := true, held := s.held ++ [(q, b)] }).2) ⟨fun x hx => .tail _ hx, nd⟩ ⟨.inr ?_, w, m, rfl⟩)
        simp only [fr_getD_cons, Nat.reduceEqDiff, Nat.reduceLT, ↓reduceIte]
      · have hX : holdL s q b = { s with owing := true } := by
          rw [holdL, if_neg (fun h => hq h.1)]
        rw [hX]
        clear hX
        (refine PCalls_f Try.func19 rfl Try.ntmps19 Try.results19 (by simp) fun fin hfin => ?_; have hnm : True := trivial; simp (maxSteps := 2000000) (disch := omega) only [evb, evd, pbuiltin, constPV, pnck, seqK, blockK, scopeK, pbin, pun, ppick, plen, piaddr, pindex, pfield, pslice, pbound, pconv, pelems, pextract, pmm, PV.mem?, PV.one, PV.cells, pageq, peqs, peq1, pmakes, pstore, pbytes, pmark, psrc, pkey, pnile, pcap, pgrow, List.set, Value.cells, ↓popG_eq, ↓pop.eq_1, ↓List.getElem?_map, ↓List.getElem?_cons_zero, ↓List.getElem?_cons_succ, Value.oneCell', Nat.reduceAdd, Nat.reduceMul, Nat.reduceSub, Nat.reduceLeDiff, Nat.reduceEqDiff, ↓reduceIte, ne_eq, reduceCtorEq, forall_const, exists_and_left, exists_eq_left', eq_self, Nat.reduceLT, Int.reduceLT, Int.reduceLE, Int.reduceToNat, Int.reduceAdd, Int.reduceSub, Int.reduceNeg, hnm, Try.tf0, Try.tf1, Try.tf2, Try.tf3, Try.tf4, Try.tf5, Try.tf6, Try.tf7, Try.tf22, Try.tf28, Try.tf33, Try.tf34, Try.tf35, Try.tf49, Try.tf63, Try.tf65, Try.tf68, Try.tf70, Try.tf73, Try.teq79, Try.call25, Try.call32, Try.call36, Try.call37, Try.call38])
        repeat' (first
    | (with_reducible apply W_seq_k; intro nx hnx)
    | (with_reducible first | apply W_block | apply W_scope)
    | (with_reducible refine W_prune 6131 ?_; simp only [prb, Nat.reducePow, Nat.reduceDiv, Nat.reduceMod, Nat.reduceBEq]; first | (with_reducible apply W_region_l) | with_reducible refine W_region_draw (id := 9) 1 (.op 0 true (.op 1 true (.op 2 true (.op 3 true (.op 4 true (.op 5 true (.op 6 true (.op 7 true (.op 8 true (.op 9 true (.op 10 true (.op 11 true (.op 12 true (.op 13 true (.op 14 true (.op 15 true (.op 16 true (.op 17 true (.op 18 true (.op 19 true (.op 20 true (.op 21 true (.op 22 true (.done)))))))))))))))))))))))) (by kernel_rfl) ?_ | with_reducible refine W_region_draw (id := 11) 1 (.op 0 true (.op 1 true (.op 2 true (.op 3 true (.op 4 true (.op 5 true (.op 6 true (.op 7 true (.done))))))))) (by kernel_rfl) ?_ | with_reducible refine W_region_draw (id := 18) 1 (.op 0 true (.op 1 true (.op 2 true (.op 3 true (.op 4 true (.op 5 true (.op 6 true (.op 7 true (.op 8 true (.op 9 true (.op 10 true (.op 11 true (.done))))))))))))) (by kernel_rfl) ?_ | with_reducible refine W_region_draw (id := 19) 1 (.op 0 true (.op 1 true (.op 2 true (.op 3 true (.op 4 true (.op 5 true (.op 6 true (.op 7 true (.op 8 true (.op 9 true (.op 10 true (.done)))))))))))) (by kernel_rfl) ?_ | with_reducible refine W_region_draw (id := 20) 1 (.op 0 true (.op 1 true (.op 2 true (.op 3 true (.op 4 true (.op 5 true (.op 6 true (.op 7 true (.op 8 true (.op 9 false (.done))))))))))) (by kernel_rfl) ?_)
    | ((first | (with_reducible apply WL_op; intro nx hnx) | with_reducible refine Ev_out ?_ | (with_reducible apply popsD_op; intro nx hnx) | (with_reducible refine popsD_alt ?_ ?_; intro nx hnx) | (with_reducible refine pfresh_k hnm fun nm hnm => ?_; (try simp only [fmb] at hnm)) | (with_reducible refine pborn_mu hnm fun nm hnm => ?_; (try simp only [fmb] at hnm)) | (with_reducible refine pmaybe_k ?_; intro bn hbn)); try (simp (maxSteps := 2000000) (disch := omega) only [evb, evd, pbuiltin, constPV, pnck, seqK, blockK, scopeK, pbin, pun, ppick, plen, piaddr, pindex, pfield, pslice, pbound, pconv, pelems, pextract, pmm, PV.mem?, PV.one, PV.cells, pageq, peqs, peq1, pmakes, pstore, pbytes, pmark, psrc, pkey, pnile, pcap, pgrow, List.set, Value.cells, ↓popG_eq, ↓pop.eq_1, ↓List.getElem?_map, ↓List.getElem?_cons_zero, ↓List.getElem?_cons_succ, Value.oneCell', Nat.reduceAdd, Nat.reduceMul, Nat.reduceSub, Nat.reduceLeDiff, Nat.reduceEqDiff, ↓reduceIte, ne_eq, reduceCtorEq, forall_const, exists_and_left, exists_eq_left', eq_self, Nat.reduceLT, Int.reduceLT, Int.reduceLE, Int.reduceToNat, Int.reduceAdd, Int.reduceSub, Int.reduceNeg, hnm, Try.tf0, Try.tf1, Try.tf2, Try.tf3, Try.tf4, Try.tf5, Try.tf6, Try.tf7, Try.tf22, Try.tf28, Try.tf33, Try.tf34, Try.tf35, Try.tf49, Try.tf63, Try.tf65, Try.tf68, Try.tf70, Try.tf73, Try.teq79, Try.call25, Try.call32, Try.call36, Try.call37, Try.call38, hM, hm]); repeat (refine And.intro (by omega) ?_))
    | ((with_reducible first | apply WL_nil | apply W_label | apply W_skip | apply W_exit | apply W_ret | apply popsD_done); try simp only [seqK, blockK, scopeK, ↓reduceIte, Nat.reduceEqDiff])
    | with_reducible exact popsD_stop
    | (with_reducible apply pguard_intro <;> (intro hc; (try simp only [hcb, reduceCtorEq, forall_const, ne_eq] at hc); first | (exfalso; omega) | (exfalso; exact hc trivial) | refine Ev_in ?_))
    | (with_reducible apply W_cond_k; intro _ _ ea eb; (simp only [condK, cob, opnd, constPV, Nat.reduceEqDiff, Nat.reduceLT, ↓reduceIte, hcb, reduceCtorEq, forall_const, ne_eq]); subst ea eb; first | (refine ⟨fun hc => ?_, fun hc => ?_⟩ <;> first | (exfalso; omega) | (exfalso; exact hc trivial) | skip) | skip)
    | (with_reducible apply hnx; clear hnx nx)
    | (with_reducible refine And.intro (by omega) ?_)
    | (with_reducible refine And.intro ?_ ?_)
    | (with_reducible refine pcall_k (c1) ?_; rintro _ _ ⟨rfl, rfl⟩ -; refine Ev_in ?_)
    | (with_reducible refine pcall_k (c2) ?_; rintro _ _ ⟨rfl, rfl⟩ -; refine Ev_in ?_)
    | (with_reducible refine pcall_k (c3) ?_; rintro _ _ ⟨rfl, rfl⟩ -; refine Ev_in ?_)
    | ((refine pcall_mid [_] (endO e w m { s with owing := true }) [] rfl (deliver_c G e w m { s with owing := true } (by (try simp only [List.length_append, List.length_cons, List.length_nil]); omega) (by (try simp only [List.length_append, List.length_cons, List.length_nil]); omega)) ?_; rintro _ _ ⟨rfl, rfl⟩; refine Ev_in ?_))
    | (clear hnx nx; with_reducible apply hnx; clear hnx nx)
    | (clear hnx nx; clear hnx nx; with_reducible apply hnx; clear hnx nx)
    | (clear hnx nx; clear hnx nx; clear hnx nx; with_reducible apply hnx; clear hnx nx))
        all_goals first
          | (exfalso
             omega)
          | skip
        refine hfin _ _ (Fin_ret2 rfl rfl (H := endO e w m (delL { s with owing := true }).2) ⟨fun x hx => .tail _ hx, nd⟩ ⟨.inr ?_, w, m, rfl⟩)
        simp only [fr_getD_cons, Nat.reduceEqDiff, Nat.reduceLT, ↓reduceIte]
    | some y =>
      obtain ⟨y1, y2⟩ := y
      obtain ⟨j, hm, -, -, -⟩ := pull_some 0 hp
      have hX : holdL s q b = { s with owing := true } := by
        rw [holdL, if_neg (fun h => by have := h.2; simp only [hp] at this; cases this)]
      rw [hX]
      clear hX
      (refine PCalls_f Try.func19 rfl Try.ntmps19 Try.results19 (by simp) fun fin hfin => ?_; have hnm : True := trivial; simp (maxSteps := 2000000) (disch := omega) only [evb, evd, pbuiltin, constPV, pnck, seqK, blockK, scopeK, pbin, pun, ppick, plen, piaddr, pindex, pfield, pslice, pbound, pconv, pelems, pextract, pmm, PV.mem?, PV.one, PV.cells, pageq, peqs, peq1, pmakes, pstore, pbytes, pmark, psrc, pkey, pnile, pcap, pgrow, List.set, Value.cells, ↓popG_eq, ↓pop.eq_1, ↓List.getElem?_map, ↓List.getElem?_cons_zero, ↓List.getElem?_cons_succ, Value.oneCell', Nat.reduceAdd, Nat.reduceMul, Nat.reduceSub, Nat.reduceLeDiff, Nat.reduceEqDiff, ↓reduceIte, ne_eq, reduceCtorEq, forall_const, exists_and_left, exists_eq_left', eq_self, Nat.reduceLT, Int.reduceLT, Int.reduceLE, Int.reduceToNat, Int.reduceAdd, Int.reduceSub, Int.reduceNeg, hnm, Try.tf0, Try.tf1, Try.tf2, Try.tf3, Try.tf4, Try.tf5, Try.tf6, Try.tf7, Try.tf22, Try.tf28, Try.tf33, Try.tf34, Try.tf35, Try.tf49, Try.tf63, Try.tf65, Try.tf68, Try.tf70, Try.tf73, Try.teq79, Try.call25, Try.call32, Try.call36, Try.call37, Try.call38])
      repeat' (first
    | (with_reducible apply W_seq_k; intro nx hnx)
    | (with_reducible first | apply W_block | apply W_scope)
    | (with_reducible refine W_prune 6131 ?_; simp only [prb, Nat.reducePow, Nat.reduceDiv, Nat.reduceMod, Nat.reduceBEq]; first | (with_reducible apply W_region_l) | with_reducible refine W_region_draw (id := 9) 1 (.op 0 true (.op 1 true (.op 2 true (.op 3 true (.op 4 true (.op 5 true (.op 6 true (.op 7 true (.op 8 true (.op 9 true (.op 10 true (.op 11 true (.op 12 true (.op 13 true (.op 14 true (.op 15 true (.op 16 true (.op 17 true (.op 18 true (.op 19 true (.op 20 true (.op 21 true (.op 22 true (.done)))))))))))))))))))))))) (by kernel_rfl) ?_ | with_reducible refine W_region_draw (id := 11) 1 (.op 0 true (.op 1 true (.op 2 true (.op 3 true (.op 4 true (.op 5 true (.op 6 true (.op 7 true (.done))))))))) (by kernel_rfl) ?_ | with_reducible refine W_region_draw (id := 18) 1 (.op 0 true (.op 1 true (.op 2 true (.op 3 true (.op 4 true (.op 5 true (.op 6 true (.op 7 true (.op 8 true (.op 9 true (.op 10 true (.op 11 true (.done))))))))))))) (by kernel_rfl) ?_ | with_reducible refine W_region_draw (id := 19) 1 (.op 0 true (.op 1 true (.op 2 true (.op 3 true (.op 4 true (.op 5 true (.op 6 true (.op 7 true (.op 8 true (.op 9 true (.op 10 true (.done)))))))))))) (by kernel_rfl) ?_ | with_reducible refine W_region_draw (id := 20) 1 (.op 0 true (.op 1 true (.op 2 true (.op 3 true (.op 4 true (.op 5 true (.op 6 true (.op 7 true (.op 8 true (.op 9 false (.done))))))))))) (by kernel_rfl) ?_)
    | ((first | (with_reducible apply WL_op; intro nx hnx) | with_reducible refine Ev_out ?_ | (with_reducible apply popsD_op; intro nx hnx) | (with_reducible refine popsD_alt ?_ ?_; intro nx hnx) | (with_reducible refine pfresh_k hnm fun nm hnm => ?_; (try simp only [fmb] at hnm)) | (with_reducible refine pborn_mu hnm fun nm hnm => ?_; (try simp only [fmb] at hnm)) | (with_reducible refine pmaybe_k ?_; intro bn hbn)); try (simp (maxSteps := 2000000) (disch := omega) only [evb, evd, pbuiltin, constPV, pnck, seqK, blockK, scopeK, pbin, pun, ppick, plen, piaddr, pindex, pfield, pslice, pbound, pconv, pelems, pextract, pmm, PV.mem?, PV.one, PV.cells, pageq, peqs, peq1, pmakes, pstore, pbytes, pmark, psrc, pkey, pnile, pcap, pgrow, List.set, Value.cells, ↓popG_eq, ↓pop.eq_1, ↓List.getElem?_map, ↓List.getElem?_cons_zero, ↓List.getElem?_cons_succ, Value.oneCell', Nat.reduceAdd, Nat.reduceMul, Nat.reduceSub, Nat.reduceLeDiff, Nat.reduceEqDiff, ↓reduceIte, ne_eq, reduceCtorEq, forall_const, exists_and_left, exists_eq_left', eq_self, Nat.reduceLT, Int.reduceLT, Int.reduceLE, Int.reduceToNat, Int.reduceAdd, Int.reduceSub, Int.reduceNeg, hnm, Try.tf0, Try.tf1, Try.tf2, Try.tf3, Try.tf4, Try.tf5, Try.tf6, Try.tf7, Try.tf22, Try.tf28, Try.tf33, Try.tf34, Try.tf35, Try.tf49, Try.tf63, Try.tf65, Try.tf68, Try.tf70, Try.tf73, Try.teq79, Try.call25, Try.call32, Try.call36, Try.call37, Try.call38, hM, hm]); repeat (refine And.intro (by omega) ?_))
    | ((with_reducible first | apply WL_nil | apply W_label | apply W_skip | apply W_exit | apply W_ret | apply popsD_done); try simp only [seqK, blockK, scopeK, ↓reduceIte, Nat.reduceEqDiff])
    | with_reducible exact popsD_stop
    | (with_reducible apply pguard_intro <;> (intro hc; (try simp only [hcb, reduceCtorEq, forall_const, ne_eq] at hc); first | (exfalso; omega) | (exfalso; exact hc trivial) | refine Ev_in ?_))
    | (with_reducible apply W_cond_k; intro _ _ ea eb; (simp only [condK, cob, opnd, constPV, Nat.reduceEqDiff, Nat.reduceLT, ↓reduceIte, hcb, reduceCtorEq, forall_const, ne_eq]); subst ea eb; first | (refine ⟨fun hc => ?_, fun hc => ?_⟩ <;> first | (exfalso; omega) | (exfalso; exact hc trivial) | skip) | skip)
    | (with_reducible apply hnx; clear hnx nx)
    | (with_reducible refine And.intro (by omega) ?_)
    | (with_reducible refine And.intro ?_ ?_)
    | (with_reducible refine pcall_k (c1) ?_; rintro _ _ ⟨rfl, rfl⟩ -; refine Ev_in ?_)
    | (with_reducible refine pcall_k (c2) ?_; rintro _ _ ⟨rfl, rfl⟩ -; refine Ev_in ?_)
    | (with_reducible refine pcall_k (c3) ?_; rintro _ _ ⟨rfl, rfl⟩ -; refine Ev_in ?_)
    | ((refine pcall_mid [_] (endO e w m { s with owing := true }) [] rfl (deliver_c G e w m { s with owing := true } (by (try simp only [List.length_append, List.length_cons, List.length_nil]); omega) (by (try simp only [List.length_append, List.length_cons, List.length_nil]); omega)) ?_; rintro _ _ ⟨rfl, rfl⟩; refine Ev_in ?_))
    | (clear hnx nx; with_reducible apply hnx; clear hnx nx)
    | (clear hnx nx; clear hnx nx; with_reducible apply hnx; clear hnx nx)
    | (clear hnx nx; clear hnx nx; clear hnx nx; with_reducible apply hnx; clear hnx nx))
      all_goals first
        | (exfalso
           omega)
        | skip
      all_goals
        refine hfin _ _ (Fin_ret2 rfl rfl (H := endO e w m (delL { s with owing := true }).2) ⟨fun x hx => .tail _ hx, nd⟩ ⟨.inr ?_, w, m, rfl⟩)
        simp only [fr_getD_cons, Nat.reduceEqDiff, Nat.reduceLT, ↓reduceIte]
theorem in_c (G : Globs) (e : Int) (s : LE) (x : List UInt8) (hx : x.length ≤ 4294900000) (hs : OkE s) (Hin : Heap) (hH : IsEnd e s Hin) :
    PCalls Try.prog G 19 [.ptr e 0, pl x] Hin (InR e (inL s x)) := by
  refine InR0.up ?_
  by_cases ho : (openF s.key x).2 = 0
  · cases hr : (readF (openF s.key x).1).2 with
    | false => exact in_none G e s x hx hs Hin hH ho hr
    | true => exact in_take G e s x hx hs Hin hH ho hr
  · exact in_bad G e s x hx hs Hin hH ho
end Go.PM

namespace Go.PM
open Go.Proofs
/-- A sealed packet. -/
def sealP (key : UInt64) (q a : Int) (b : List UInt8) : List UInt8 := packB q a b ++ sealB key (packB q a b)
theorem packB_len (q a : Int) (b : List UInt8) (h1 : inR q) (h2 : inR a) (hb : b.length ≤ 100000) : (packB q a b).length ≤ 100040 := by
  have n2 := intB_len9 (n := 2) ⟨by omega, by omega⟩
  have ns := intB_len9 h1
  have na := intB_len9 h2
  have nb := intB_len9 (n := b.length) ⟨by omega, by omega⟩
  simp [packB, encL, bytesB]
  omega
/-- The packets that an end sends. -/
def pktL (s : LE) (i : Nat) : List UInt8 := sealP s.key ((s.acked + i + 1 : Nat) : Int) (s.got : Int) (s.wait.getD i [])
def outP (s : LE) : List (List UInt8) := (List.range (min s.wait.length s.win)).map (pktL s)
def outL (s : LE) : List (List UInt8) × LE := (if min s.wait.length s.win = 0 ∧ s.owing = true then [sealP s.key 0 s.got []] else outP s, { s with owing := false })
theorem range_snoc (f : Nat → List UInt8) (k : Nat) : (List.range (k + 1)).map f = (List.range k).map f ++ [f k] := by simp [List.range_succ]
section
variable {P : Program} {G : Globs}
/-- An argument is read in another way. -/
theorem PCalls.arg1 {f : FuncId} {p p' : PV} {Hin : Heap} {R : PV → Heap → Prop} (h : ∀ w A v, Rep w A p v → Rep w A p' v) (hc : PCalls P G f [p'] Hin R) : PCalls P G f [p] Hin R := by
  intro w A F vals h1 h2 h3 h4 h5 h6 h7
  refine hc w A F vals h1 h2 h3 h4 h5 h6 (fun i q hq => ?_)
  match i, hq with
  | 0, hq =>
    cases hq
    obtain ⟨v, hv, hr⟩ := h7 0 p rfl
    exact ⟨v, hv, h _ _ _ hr⟩
theorem rep_pk (x y : PV) : ∀ (w : World) (A : Nat → Prop) (v : Value), Rep w A (.agg [x, y, pnil]) v → Rep w A (.agg [x, y, .list 1 []]) v := by
  intro w A v hr
  obtain ⟨f, rfl, h2⟩ := hr.agg_inv
  exact .agg [x, y, .list 1 []] f (fun j u hu => by
    match j, hu with
    | 0, hu => exact h2 0 u hu
    | 1, hu => exact h2 1 u hu
    | 2, hu => cases hu; exact nil_list 1 (h2 2 pnil rfl)
    | j + 3, hu => simp at hu)
end
attribute [local irreducible] W PCalls pcall pcallI WL
set_option maxRecDepth 100000 in
set_option maxHeartbeats 8000000 in
theorem out_r (G : Globs) (e w m : Int) (s : LE) (hs : OkE s) (hwin : s.win ≤ 1000) (hW : ∀ b ∈ s.wait, b.length ≤ 65536) :
    PCalls Try.prog G 13 [.ptr e 0] (endO e w m s) (fun res H => ∃ n : Int, (¬ n = e ∧ ¬ n = w ∧ ¬ n = m) ∧ res = .row n 1 (outL s).1.length ∧ H = (n, ⟨33, true, 1, (outL s).1.map pl⟩) :: endO e w m (outL s).2) := by
  obtain ⟨hs1, hs2, hs3, hs4⟩ := hs
  refine PCalls.nd fun nd => ?_
  have hM := end_nd nd
  obtain ⟨k, hk⟩ : ∃ k, k = min s.wait.length s.win := ⟨_, rfl⟩
  have hk2 : min (s.wait.length : Int) (s.win : Int) = (k : Int) := by omega
  have hkl : k ≤ s.wait.length := by omega
  have hk3 : k ≤ 1000 := by omega
  have hX : outL s = (if k = 0 ∧ s.owing = true then [sealP s.key 0 s.got []] else (List.range k).map (pktL s), { s with owing := false }) := by rw [outL, outP, ← hk]
  rw [hX]
  clear hX hk
  (refine PCalls_f Try.func13 rfl Try.ntmps13 Try.results13 (by simp) fun fin hfin => ?_; have hnm : True := trivial; simp (maxSteps := 2000000) (disch := omega) only [evb, evd, pbuiltin, constPV, pnck, seqK, blockK, scopeK, pbin, pun, ppick, plen, piaddr, pindex, pfield, pslice, pbound, pconv, pelems, pextract, pmm, PV.mem?, PV.one, PV.cells, pageq, peqs, peq1, pmakes, pstore, pbytes, pmark, psrc, pkey, pnile, pcap, pgrow, List.set, Value.cells, ↓popG_eq, ↓pop.eq_1, ↓List.getElem?_map, ↓List.getElem?_cons_zero, ↓List.getElem?_cons_succ, Value.oneCell', Nat.reduceAdd, Nat.reduceMul, Nat.reduceSub, Nat.reduceLeDiff, Nat.reduceEqDiff, ↓reduceIte, ne_eq, reduceCtorEq, forall_const, exists_and_left, exists_eq_left', eq_self, Nat.reduceLT, Int.reduceLT, Int.reduceLE, Int.reduceToNat, Int.reduceAdd, Int.reduceSub, Int.reduceNeg, hnm, Try.tf0, Try.tf1, Try.tf2, Try.tf3, Try.tf4, Try.tf5, Try.tf6, Try.tf22, Try.tf28, Try.tf33, Try.tf35, Try.tf65, Try.tf68, Try.teq79, Try.call24, Try.call33])
  with_reducible apply W_seq_k
  intro nx hnx
  repeat' (first
    | (with_reducible first | apply W_block | apply W_scope)
    | (with_reducible refine W_prune 7340093 ?_; simp only [prb, Nat.reducePow, Nat.reduceDiv, Nat.reduceMod, Nat.reduceBEq]; first | (with_reducible apply W_region_l) | with_reducible refine W_region_draw (id := 2) 1 (.op 0 true (.op 1 true (.op 2 true (.op 3 true (.op 4 true (.op 5 true (.op 6 true (.op 7 true (.op 8 true (.op 9 true (.op 10 true (.op 11 true (.op 12 true (.op 13 true (.op 14 true (.op 15 true (.op 16 true (.done)))))))))))))))))) (by kernel_rfl) ?_ | with_reducible refine W_region_draw (id := 5) 8 (.op 0 true (.op 1 true (.op 2 true (.op 3 true (.op 4 true (.op 5 true (.op 6 true (.op 7 true (.op 8 true (.op 9 true (.op 10 true (.op 11 true (.op 12 true (.op 13 true (.op 14 true (.op 15 true (.op 16 true (.op 17 true (.op 18 true (.op 19 false (.op 20 false (.op 21 false (.op 22 true (.done)))))))))))))))))))))))) (by kernel_rfl) ?_ | with_reducible refine W_region_draw (id := 8) 6 (.op 0 true (.op 1 true (.op 2 true (.op 3 true (.op 4 true (.op 5 true (.op 6 true (.op 7 true (.op 8 true (.op 9 true (.op 10 true (.op 11 false (.op 12 false (.op 13 false (.op 14 true (.done)))))))))))))))) (by kernel_rfl) ?_)
    | ((first | (with_reducible apply WL_op; intro nx hnx) | with_reducible refine Ev_out ?_ | (with_reducible apply popsD_op; intro nx hnx) | (with_reducible refine popsD_alt ?_ ?_; intro nx hnx) | (with_reducible refine pfresh_k hnm fun nm hnm => ?_; (try simp only [fmb] at hnm)) | (with_reducible refine pborn_mu hnm fun nm hnm => ?_; (try simp only [fmb] at hnm)) | (with_reducible refine pmaybe_k ?_; intro bn hbn)); try (simp (maxSteps := 2000000) (disch := omega) only [evb, evd, pbuiltin, constPV, pnck, seqK, blockK, scopeK, pbin, pun, ppick, plen, piaddr, pindex, pfield, pslice, pbound, pconv, pelems, pextract, pmm, PV.mem?, PV.one, PV.cells, pageq, peqs, peq1, pmakes, pstore, pbytes, pmark, psrc, pkey, pnile, pcap, pgrow, List.set, Value.cells, ↓popG_eq, ↓pop.eq_1, ↓List.getElem?_map, ↓List.getElem?_cons_zero, ↓List.getElem?_cons_succ, Value.oneCell', Nat.reduceAdd, Nat.reduceMul, Nat.reduceSub, Nat.reduceLeDiff, Nat.reduceEqDiff, ↓reduceIte, ne_eq, reduceCtorEq, forall_const, exists_and_left, exists_eq_left', eq_self, Nat.reduceLT, Int.reduceLT, Int.reduceLE, Int.reduceToNat, Int.reduceAdd, Int.reduceSub, Int.reduceNeg, hnm, Try.tf0, Try.tf1, Try.tf2, Try.tf3, Try.tf4, Try.tf5, Try.tf6, Try.tf22, Try.tf28, Try.tf33, Try.tf35, Try.tf65, Try.tf68, Try.teq79, Try.call24, Try.call33]); repeat (refine And.intro (by omega) ?_))
    | ((with_reducible first | apply WL_nil | apply W_label | apply W_skip | apply W_exit | apply W_ret | apply popsD_done); try simp only [seqK, blockK, scopeK, ↓reduceIte, Nat.reduceEqDiff])
    | with_reducible exact popsD_stop
    | (with_reducible apply pguard_intro <;> (intro hc; (try simp only [hcb, reduceCtorEq, forall_const, ne_eq] at hc); first | (exfalso; omega) | (exfalso; exact hc trivial) | refine Ev_in ?_))
    | (with_reducible apply W_cond_k; intro _ _ ea eb; (simp only [condK, cob, opnd, constPV, Nat.reduceEqDiff, Nat.reduceLT, ↓reduceIte, hcb, reduceCtorEq, forall_const, ne_eq]); subst ea eb; first | (refine ⟨fun hc => ?_, fun hc => ?_⟩ <;> first | (exfalso; omega) | (exfalso; exact hc trivial) | skip) | skip)
    | (with_reducible apply hnx; clear hnx nx)
    | (with_reducible refine And.intro (by omega) ?_)
    | (with_reducible refine And.intro ?_ ?_)
    | (clear hnx nx; with_reducible apply hnx; clear hnx nx)
    | (clear hnx nx; clear hnx nx; with_reducible apply hnx; clear hnx nx)
    | (clear hnx nx; clear hnx nx; clear hnx nx; with_reducible apply hnx; clear hnx nx))
  with_reducible apply W_seq_k
  intro nx hnx
  repeat' (first
    | (with_reducible first | apply W_block | apply W_scope)
    | (with_reducible refine W_prune 7340093 ?_; simp only [prb, Nat.reducePow, Nat.reduceDiv, Nat.reduceMod, Nat.reduceBEq]; first | (with_reducible apply W_region_l) | with_reducible refine W_region_draw (id := 2) 1 (.op 0 true (.op 1 true (.op 2 true (.op 3 true (.op 4 true (.op 5 true (.op 6 true (.op 7 true (.op 8 true (.op 9 true (.op 10 true (.op 11 true (.op 12 true (.op 13 true (.op 14 true (.op 15 true (.op 16 true (.done)))))))))))))))))) (by kernel_rfl) ?_ | with_reducible refine W_region_draw (id := 5) 8 (.op 0 true (.op 1 true (.op 2 true (.op 3 true (.op 4 true (.op 5 true (.op 6 true (.op 7 true (.op 8 true (.op 9 true (.op 10 true (.op 11 true (.op 12 true (.op 13 true (.op 14 true (.op 15 true (.op 16 true (.op 17 true (.op 18 true (.op 19 false (.op 20 false (.op 21 false (.op 22 true (.done)))))))))))))))))))))))) (by kernel_rfl) ?_ | with_reducible refine W_region_draw (id := 8) 6 (.op 0 true (.op 1 true (.op 2 true (.op 3 true (.op 4 true (.op 5 true (.op 6 true (.op 7 true (.op 8 true (.op 9 true (.op 10 true (.op 11 false (.op 12 false (.op 13 false (.op 14 true (.done)))))))))))))))) (by kernel_rfl) ?_)
    | ((first | (with_reducible apply WL_op; intro nx hnx) | with_reducible refine Ev_out ?_ | (with_reducible apply popsD_op; intro nx hnx) | (with_reducible refine popsD_alt ?_ ?_; intro nx hnx) | (with_reducible refine pfresh_k hnm fun nm hnm => ?_; (try simp only [fmb] at hnm)) | (with_reducible refine pborn_mu hnm fun nm hnm => ?_; (try simp only [fmb] at hnm)) | (with_reducible refine pmaybe_k ?_; intro bn hbn)); try (simp (maxSteps := 2000000) (disch := omega) only [evb, evd, pbuiltin, constPV, pnck, seqK, blockK, scopeK, pbin, pun, ppick, plen, piaddr, pindex, pfield, pslice, pbound, pconv, pelems, pextract, pmm, PV.mem?, PV.one, PV.cells, pageq, peqs, peq1, pmakes, pstore, pbytes, pmark, psrc, pkey, pnile, pcap, pgrow, List.set, Value.cells, ↓popG_eq, ↓pop.eq_1, ↓List.getElem?_map, ↓List.getElem?_cons_zero, ↓List.getElem?_cons_succ, Value.oneCell', Nat.reduceAdd, Nat.reduceMul, Nat.reduceSub, Nat.reduceLeDiff, Nat.reduceEqDiff, ↓reduceIte, ne_eq, reduceCtorEq, forall_const, exists_and_left, exists_eq_left', eq_self, Nat.reduceLT, Int.reduceLT, Int.reduceLE, Int.reduceToNat, Int.reduceAdd, Int.reduceSub, Int.reduceNeg, hnm, Try.tf0, Try.tf1, Try.tf2, Try.tf3, Try.tf4, Try.tf5, Try.tf6, Try.tf22, Try.tf28, Try.tf33, Try.tf35, Try.tf65, Try.tf68, Try.teq79, Try.call24, Try.call33]); repeat (refine And.intro (by omega) ?_))
    | ((with_reducible first | apply WL_nil | apply W_label | apply W_skip | apply W_exit | apply W_ret | apply popsD_done); try simp only [seqK, blockK, scopeK, ↓reduceIte, Nat.reduceEqDiff])
    | with_reducible exact popsD_stop
    | (with_reducible apply pguard_intro <;> (intro hc; (try simp only [hcb, reduceCtorEq, forall_const, ne_eq] at hc); first | (exfalso; omega) | (exfalso; exact hc trivial) | refine Ev_in ?_))
    | (with_reducible apply W_cond_k; intro _ _ ea eb; (simp only [condK, cob, opnd, constPV, Nat.reduceEqDiff, Nat.reduceLT, ↓reduceIte, hcb, reduceCtorEq, forall_const, ne_eq]); subst ea eb; first | (refine ⟨fun hc => ?_, fun hc => ?_⟩ <;> first | (exfalso; omega) | (exfalso; exact hc trivial) | skip) | skip)
    | (with_reducible apply hnx; clear hnx nx)
    | (with_reducible refine And.intro (by omega) ?_)
    | (with_reducible refine And.intro ?_ ?_)
    | (clear hnx nx; with_reducible apply hnx; clear hnx nx)
    | (clear hnx nx; clear hnx nx; with_reducible apply hnx; clear hnx nx)
    | (clear hnx nx; clear hnx nx; clear hnx nx; with_reducible apply hnx; clear hnx nx))
  refine W_adopt_f 3 33 1 (by simp only [fr_getD_cons, Nat.reduceEqDiff, Nat.reduceLT, ↓reduceIte]) fun nm0 hnm0 => ?_
  have hn0 : ¬ nm0 = e ∧ ¬ nm0 = w ∧ ¬ nm0 = m := by simpa [names] using hnm0
  repeat' (first
    | (with_reducible apply W_seq_k; intro nx hnx)
    | (with_reducible first | apply W_block | apply W_scope)
    | (with_reducible refine W_prune 7340093 ?_; simp only [prb, Nat.reducePow, Nat.reduceDiv, Nat.reduceMod, Nat.reduceBEq]; first | (with_reducible apply W_region_l) | with_reducible refine W_region_draw (id := 2) 1 (.op 0 true (.op 1 true (.op 2 true (.op 3 true (.op 4 true (.op 5 true (.op 6 true (.op 7 true (.op 8 true (.op 9 true (.op 10 true (.op 11 true (.op 12 true (.op 13 true (.op 14 true (.op 15 true (.op 16 true (.done)))))))))))))))))) (by kernel_rfl) ?_ | with_reducible refine W_region_draw (id := 5) 8 (.op 0 true (.op 1 true (.op 2 true (.op 3 true (.op 4 true (.op 5 true (.op 6 true (.op 7 true (.op 8 true (.op 9 true (.op 10 true (.op 11 true (.op 12 true (.op 13 true (.op 14 true (.op 15 true (.op 16 true (.op 17 true (.op 18 true (.op 19 false (.op 20 false (.op 21 false (.op 22 true (.done)))))))))))))))))))))))) (by kernel_rfl) ?_ | with_reducible refine W_region_draw (id := 8) 6 (.op 0 true (.op 1 true (.op 2 true (.op 3 true (.op 4 true (.op 5 true (.op 6 true (.op 7 true (.op 8 true (.op 9 true (.op 10 true (.op 11 false (.op 12 false (.op 13 false (.op 14 true (.done)))))))))))))))) (by kernel_rfl) ?_)
    | ((first | (with_reducible apply WL_op; intro nx hnx) | with_reducible refine Ev_out ?_ | (with_reducible apply popsD_op; intro nx hnx) | (with_reducible refine popsD_alt ?_ ?_; intro nx hnx) | (with_reducible refine pfresh_k hnm fun nm hnm => ?_; (try simp only [fmb] at hnm)) | (with_reducible refine pborn_mu hnm fun nm hnm => ?_; (try simp only [fmb] at hnm)) | (with_reducible refine pmaybe_k ?_; intro bn hbn)); try (simp (maxSteps := 2000000) (disch := omega) only [evb, evd, pbuiltin, constPV, pnck, seqK, blockK, scopeK, pbin, pun, ppick, plen, piaddr, pindex, pfield, pslice, pbound, pconv, pelems, pextract, pmm, PV.mem?, PV.one, PV.cells, pageq, peqs, peq1, pmakes, pstore, pbytes, pmark, psrc, pkey, pnile, pcap, pgrow, List.set, Value.cells, ↓popG_eq, ↓pop.eq_1, ↓List.getElem?_map, ↓List.getElem?_cons_zero, ↓List.getElem?_cons_succ, Value.oneCell', Nat.reduceAdd, Nat.reduceMul, Nat.reduceSub, Nat.reduceLeDiff, Nat.reduceEqDiff, ↓reduceIte, ne_eq, reduceCtorEq, forall_const, exists_and_left, exists_eq_left', eq_self, Nat.reduceLT, Int.reduceLT, Int.reduceLE, Int.reduceToNat, Int.reduceAdd, Int.reduceSub, Int.reduceNeg, hnm, Try.tf0, Try.tf1, Try.tf2, Try.tf3, Try.tf4, Try.tf5, Try.tf6, Try.tf22, Try.tf28, Try.tf33, Try.tf35, Try.tf65, Try.tf68, Try.teq79, Try.call24, Try.call33, hM, hn0, hk2]); repeat (refine And.intro (by omega) ?_))
    | ((with_reducible first | apply WL_nil | apply W_label | apply W_skip | apply W_exit | apply W_ret | apply popsD_done); try simp only [seqK, blockK, scopeK, ↓reduceIte, Nat.reduceEqDiff])
    | with_reducible exact popsD_stop
    | (with_reducible apply pguard_intro <;> (intro hc; (try simp only [hcb, reduceCtorEq, forall_const, ne_eq] at hc); first | (exfalso; omega) | (exfalso; exact hc trivial) | refine Ev_in ?_))
    | (with_reducible apply W_cond_k; intro _ _ ea eb; (simp only [condK, cob, opnd, constPV, Nat.reduceEqDiff, Nat.reduceLT, ↓reduceIte, hcb, reduceCtorEq, forall_const, ne_eq]); subst ea eb; first | (refine ⟨fun hc => ?_, fun hc => ?_⟩ <;> first | (exfalso; omega) | (exfalso; exact hc trivial) | skip) | skip)
    | (with_reducible apply hnx; clear hnx nx)
    | (with_reducible refine And.intro (by omega) ?_)
    | (with_reducible refine And.intro ?_ ?_)
    | (clear hnx nx; with_reducible apply hnx; clear hnx nx)
    | (clear hnx nx; clear hnx nx; with_reducible apply hnx; clear hnx nx)
    | (clear hnx nx; clear hnx nx; clear hnx nx; with_reducible apply hnx; clear hnx nx))
  all_goals first
    | (exfalso
       omega)
    | skip
  refine W_loop_k (fun z τ => ∃ (n : Int) (i : Nat), i ≤ k ∧ z = k - i ∧ τ = ⟨fr 77 [(0, .ptr e 0), (3, .row n 1 ((List.range i).map (pktL s)).length), (20, .row w 1 k), (21, pint .i64 k), (22, pint .i64 i)], (n, ⟨33, true, 1, ((List.range i).map (pktL s)).map pl⟩) :: endO e w m s⟩) k
    ⟨fr 77 [(0, .ptr e 0), (3, .row nm0 1 ((List.range 0).map (pktL s)).length), (20, .row w 1 k), (21, pint .i64 k), (22, pint .i64 (0 : Nat))], (nm0, ⟨33, true, 1, ((List.range 0).map (pktL s)).map pl⟩) :: endO e w m s⟩ (by
    refine Wk_fr (by simp only [wkb, Nat.reduceEqDiff, Nat.reduceLT, ↓reduceIte, List.length_nil, List.range_zero, List.map_nil]) ?_
    exact Sub_refl (by simp [names, hM, hn0])) ⟨nm0, 0, by omega, by omega, rfl⟩ ?_
  clear hnm0 hn0
  rintro z τ ⟨n, i, hi, rfl, rfl⟩ lp hlp
  refine W_nd fun nd2 => ?_
  have hN0 : ¬ n = e ∧ ¬ n = w ∧ ¬ n = m := by
    simp only [names, List.map_cons, List.map_nil, List.nodup_cons, List.mem_cons, List.not_mem_nil, or_false, not_or] at nd2
    exact nd2.1
  have hN : (n = e) = False ∧ (n = w) = False ∧ (n = m) = False := ⟨eq_false hN0.1, eq_false hN0.2.1, eq_false hN0.2.2⟩
  have hN2 : (e = n) = False ∧ (w = n) = False ∧ (m = n) = False := ⟨eq_false fun h => hN0.1 h.symm, eq_false fun h => hN0.2.1 h.symm, eq_false fun h => hN0.2.2 h.symm⟩
  clear nd2
  by_cases hik : i < k
  · obtain ⟨acc, hacc⟩ : ∃ acc, acc = (List.range i).map (pktL s) := ⟨_, rfl⟩
    have hal : acc.length = i := by rw [hacc]; simp
    obtain ⟨b, hb⟩ : ∃ b, b = s.wait.getD i [] := ⟨_, rfl⟩
    have hget : s.wait[i]? = some b := by
      have hi2 : i < s.wait.length := by omega
      simp [hb, List.getD_eq_getElem?_getD, List.getElem?_eq_getElem hi2]
    have hbl : b.length ≤ 65536 := by
      rw [hb]
      have hi2 : i < s.wait.length := by omega
      rw [List.getD_eq_getElem?_getD, List.getElem?_eq_getElem hi2]
      exact hW _ (List.getElem_mem hi2)
    have hq1 : inR ((s.acked + i + 1 : Nat) : Int) := ⟨by omega, by omega⟩
    have hq2 : inR (s.got : Int) := ⟨by omega, by omega⟩
    have c1 := pbytes_c G ((s.acked + i + 1 : Nat) : Int) s.got b hq1 hq2 (by omega)
    have hpl := packB_len ((s.acked + i + 1 : Nat) : Int) s.got b hq1 hq2 (by omega)
    have c2 := Seal_c G s.key (packB ((s.acked + i + 1 : Nat) : Int) s.got b) (by omega)
    have hP : packB ((s.acked + i + 1 : Nat) : Int) s.got b ++ sealB s.key (packB ((s.acked + i + 1 : Nat) : Int) s.got b) = pktL s i := by rw [pktL, ← hb]; rfl
    rw [hP] at c2
    have hnext : (List.range (i + 1)).map (pktL s) = acc ++ [pktL s i] := by rw [range_snoc, hacc]
    rw [← hacc]
    generalize packB ((s.acked + i + 1 : Nat) : Int) s.got b = pb at *
    generalize pktL s i = p at *
    push_cast at c1
    clear hb hP hpl hacc
    repeat' (first
    | (with_reducible apply W_seq_k; intro nx hnx)
    | (with_reducible first | apply W_block | apply W_scope)
    | (with_reducible refine W_prune 7340093 ?_; simp only [prb, Nat.reducePow, Nat.reduceDiv, Nat.reduceMod, Nat.reduceBEq]; first | (with_reducible apply W_region_l) | with_reducible refine W_region_draw (id := 2) 1 (.op 0 true (.op 1 true (.op 2 true (.op 3 true (.op 4 true (.op 5 true (.op 6 true (.op 7 true (.op 8 true (.op 9 true (.op 10 true (.op 11 true (.op 12 true (.op 13 true (.op 14 true (.op 15 true (.op 16 true (.done)))))))))))))))))) (by kernel_rfl) ?_ | with_reducible refine W_region_draw (id := 5) 8 (.op 0 true (.op 1 true (.op 2 true (.op 3 true (.op 4 true (.op 5 true (.op 6 true (.op 7 true (.op 8 true (.op 9 true (.op 10 true (.op 11 true (.op 12 true (.op 13 true (.op 14 true (.op 15 true (.op 16 true (.op 17 true (.op 18 true (.op 19 false (.op 20 false (.op 21 false (.op 22 true (.done)))))))))))))))))))))))) (by kernel_rfl) ?_ | with_reducible refine W_region_draw (id := 8) 6 (.op 0 true (.op 1 true (.op 2 true (.op 3 true (.op 4 true (.op 5 true (.op 6 true (.op 7 true (.op 8 true (.op 9 true (.op 10 true (.op 11 false (.op 12 false (.op 13 false (.op 14 true (.done)))))))))))))))) (by kernel_rfl) ?_)
    | (with_reducible refine WL_born (by simp) rfl (by simp) ?_; simp only [elemsOf, nl, List.map_cons, List.map_nil, Nat.reduceEqDiff, ↓reduceIte, List.take_succ_cons, List.take_zero, List.range_succ, List.range_zero, List.nil_append, List.cons_append, List.map_append, List.drop_succ_cons, List.drop_zero, Nat.reduceMul, Nat.zero_mul, Nat.one_mul, Nat.reduceAdd])
    | ((first | (with_reducible apply WL_op; intro nx hnx) | with_reducible refine Ev_out ?_ | (with_reducible apply popsD_op; intro nx hnx) | (with_reducible refine popsD_alt ?_ ?_; intro nx hnx) | (with_reducible refine pfresh_k hnm fun nm hnm => ?_; (try simp only [fmb] at hnm)) | (with_reducible refine pborn_im ?_; simp only [elemsOf, nl, List.map_cons, List.map_nil, Nat.reduceEqDiff, ↓reduceIte, List.take_succ_cons, List.take_zero, List.range_succ, List.range_zero, List.nil_append, List.cons_append, List.map_append, List.drop_succ_cons, List.drop_zero, Nat.reduceMul, Nat.zero_mul, Nat.one_mul, Nat.reduceAdd]) | (with_reducible refine pmaybe_k ?_; intro bn hbn)); try (simp (maxSteps := 2000000) (disch := omega) only [evb, evd, pbuiltin, constPV, pnck, seqK, blockK, scopeK, pbin, pun, ppick, plen, piaddr, pindex, pfield, pslice, pbound, pconv, pelems, pextract, pmm, PV.mem?, PV.one, PV.cells, pageq, peqs, peq1, pmakes, pstore, pbytes, pmark, psrc, pkey, pnile, pcap, pgrow, List.set, Value.cells, ↓popG_eq, ↓pop.eq_1, ↓List.getElem?_map, ↓List.getElem?_cons_zero, ↓List.getElem?_cons_succ, Value.oneCell', Nat.reduceAdd, Nat.reduceMul, Nat.reduceSub, Nat.reduceLeDiff, Nat.reduceEqDiff, ↓reduceIte, ne_eq, reduceCtorEq, forall_const, exists_and_left, exists_eq_left', eq_self, Nat.reduceLT, Int.reduceLT, Int.reduceLE, Int.reduceToNat, Int.reduceAdd, Int.reduceSub, Int.reduceNeg, hnm, Try.tf0, Try.tf1, Try.tf2, Try.tf3, Try.tf4, Try.tf5, Try.tf6, Try.tf22, Try.tf28, Try.tf33, Try.tf35, Try.tf65, Try.tf68, Try.teq79, Try.call24, Try.call33, hM, hN, hN2, hget]); repeat (refine And.intro (by omega) ?_))
    | ((with_reducible first | apply WL_nil | apply W_label | apply W_skip | apply W_exit | apply W_ret | apply popsD_done); try simp only [seqK, blockK, scopeK, ↓reduceIte, Nat.reduceEqDiff])
    | with_reducible exact popsD_stop
    | (with_reducible apply pguard_intro <;> (intro hc; (try simp only [hcb, reduceCtorEq, forall_const, ne_eq] at hc); first | (exfalso; omega) | (exfalso; exact hc trivial) | refine Ev_in ?_))
    | (with_reducible apply W_cond_k; intro _ _ ea eb; (simp only [condK, cob, opnd, constPV, Nat.reduceEqDiff, Nat.reduceLT, ↓reduceIte, hcb, reduceCtorEq, forall_const, ne_eq]); subst ea eb; first | (refine ⟨fun hc => ?_, fun hc => ?_⟩ <;> first | (exfalso; omega) | (exfalso; exact hc trivial) | skip) | skip)
    | (with_reducible apply hnx; clear hnx nx)
    | (with_reducible refine And.intro (by omega) ?_)
    | (with_reducible refine And.intro ?_ ?_)
    | (with_reducible refine pcall_k (c1) ?_; rintro _ _ ⟨rfl, rfl⟩ -; refine Ev_in ?_)
    | (with_reducible refine pcall_k (c2) ?_; rintro _ _ ⟨rfl, rfl⟩ -; refine Ev_in ?_)
    | (clear hnx nx; with_reducible apply hnx; clear hnx nx)
    | (clear hnx nx; clear hnx nx; with_reducible apply hnx; clear hnx nx)
    | (clear hnx nx; clear hnx nx; clear hnx nx; with_reducible apply hnx; clear hnx nx))
    all_goals first
      | (exfalso
         omega)
      | skip
    refine hlp _ (k - (i + 1)) _ (by omega) ?_ ⟨nm, i + 1, by omega, rfl, rfl⟩
    rw [hnext]
    refine Wk_fr (by simp only [wkb, Nat.reduceEqDiff, Nat.reduceLT, ↓reduceIte, List.length_append, List.length_cons, List.length_nil, List.map_append, List.map_cons, List.map_nil]) ?_
    refine ⟨?_, ?_⟩
    · intro x hx
      simp only [List.mem_cons, List.not_mem_nil, or_false] at hx ⊢
      rcases hx with rfl | rfl | rfl | rfl
      · exact .inl (by simp [flat, PV.cells])
      · exact .inr (.inl rfl)
      · exact .inr (.inr (.inl rfl))
      · exact .inr (.inr (.inr rfl))
    · simp [names, hM, hnm]
  · have hi : i = k := by omega
    subst hi
    clear hlp
    have hq2 : inR (s.got : Int) := ⟨by omega, by omega⟩
    have c1 := PCalls.arg1 (rep_pk _ _) (pbytes_c G 0 s.got [] ⟨by omega, by omega⟩ hq2 (by simp))
    have hpl := packB_len 0 s.got [] ⟨by omega, by omega⟩ hq2 (by simp)
    have c2 := Seal_c G s.key (packB 0 s.got []) (by omega)
    rw [← sealP] at c2
    generalize sealP s.key 0 s.got [] = p at *
    generalize packB 0 s.got [] = pb at *
    by_cases hx : i = 0 ∧ s.owing = true
    · obtain ⟨rfl, ho⟩ := hx
      rw [if_pos ⟨rfl, ho⟩] at hfin
      repeat' (first
    | (with_reducible apply W_seq_k; intro nx hnx)
    | (with_reducible first | apply W_block | apply W_scope)
    | (with_reducible refine W_prune 7340093 ?_; simp only [prb, Nat.reducePow, Nat.reduceDiv, Nat.reduceMod, Nat.reduceBEq]; first | (with_reducible apply W_region_l) | with_reducible refine W_region_draw (id := 2) 1 (.op 0 true (.op 1 true (.op 2 true (.op 3 true (.op 4 true (.op 5 true (.op 6 true (.op 7 true (.op 8 true (.op 9 true (.op 10 true (.op 11 true (.op 12 true (.op 13 true (.op 14 true (.op 15 true (.op 16 true (.done)))))))))))))))))) (by kernel_rfl) ?_ | with_reducible refine W_region_draw (id := 5) 8 (.op 0 true (.op 1 true (.op 2 true (.op 3 true (.op 4 true (.op 5 true (.op 6 true (.op 7 true (.op 8 true (.op 9 true (.op 10 true (.op 11 true (.op 12 true (.op 13 true (.op 14 true (.op 15 true (.op 16 true (.op 17 true (.op 18 true (.op 19 false (.op 20 false (.op 21 false (.op 22 true (.done)))))))))))))))))))))))) (by kernel_rfl) ?_ | with_reducible refine W_region_draw (id := 8) 6 (.op 0 true (.op 1 true (.op 2 true (.op 3 true (.op 4 true (.op 5 true (.op 6 true (.op 7 true (.op 8 true (.op 9 true (.op 10 true (.op 11 false (.op 12 false (.op 13 false (.op 14 true (.done)))))))))))))))) (by kernel_rfl) ?_)
    | (with_reducible refine WL_born (by simp) rfl (by simp) ?_; simp only [elemsOf, nl, List.map_cons, List.map_nil, Nat.reduceEqDiff, ↓reduceIte, List.take_succ_cons, List.take_zero, List.range_succ, List.range_zero, List.nil_append, List.cons_append, List.map_append, List.drop_succ_cons, List.drop_zero, Nat.reduceMul, Nat.zero_mul, Nat.one_mul, Nat.reduceAdd])
    | ((first | (with_reducible apply WL_op; intro nx hnx) | with_reducible refine Ev_out ?_ | (with_reducible apply popsD_op; intro nx hnx) | (with_reducible refine popsD_alt ?_ ?_; intro nx hnx) | (with_reducible refine pfresh_k hnm fun nm hnm => ?_; (try simp only [fmb] at hnm)) | (with_reducible refine pborn_im ?_; simp only [elemsOf, nl, List.map_cons, List.map_nil, Nat.reduceEqDiff, ↓reduceIte, List.take_succ_cons, List.take_zero, List.range_succ, List.range_zero, List.nil_append, List.cons_append, List.map_append, List.drop_succ_cons, List.drop_zero, Nat.reduceMul, Nat.zero_mul, Nat.one_mul, Nat.reduceAdd]) | (with_reducible refine pmaybe_k ?_; intro bn hbn)); try (simp (maxSteps := 2000000) (disch := omega) only [evb, evd, pbuiltin, constPV, pnck, seqK, blockK, scopeK, pbin, pun, ppick, plen, piaddr, pindex, pfield, pslice, pbound, pconv, pelems, pextract, pmm, PV.mem?, PV.one, PV.cells, pageq, peqs, peq1, pmakes, pstore, pbytes, pmark, psrc, pkey, pnile, pcap, pgrow, List.set, Value.cells, ↓popG_eq, ↓pop.eq_1, ↓List.getElem?_map, ↓List.getElem?_cons_zero, ↓List.getElem?_cons_succ, Value.oneCell', Nat.reduceAdd, Nat.reduceMul, Nat.reduceSub, Nat.reduceLeDiff, Nat.reduceEqDiff, ↓reduceIte, ne_eq, reduceCtorEq, forall_const, exists_and_left, exists_eq_left', eq_self, Nat.reduceLT, Int.reduceLT, Int.reduceLE, Int.reduceToNat, Int.reduceAdd, Int.reduceSub, Int.reduceNeg, hnm, Try.tf0, Try.tf1, Try.tf2, Try.tf3, Try.tf4, Try.tf5, Try.tf6, Try.tf22, Try.tf28, Try.tf33, Try.tf35, Try.tf65, Try.tf68, Try.teq79, Try.call24, Try.call33, hM, hN, hN2, ho, List.length_nil, List.range_zero, List.map_nil]); repeat (refine And.intro (by omega) ?_))
    | ((with_reducible first | apply WL_nil | apply W_label | apply W_skip | apply W_exit | apply W_ret | apply popsD_done); try simp only [seqK, blockK, scopeK, ↓reduceIte, Nat.reduceEqDiff])
    | with_reducible exact popsD_stop
    | (with_reducible apply pguard_intro <;> (intro hc; (try simp only [hcb, reduceCtorEq, forall_const, ne_eq] at hc); first | (exfalso; omega) | (exfalso; exact hc trivial) | refine Ev_in ?_))
    | (with_reducible apply W_cond_k; intro _ _ ea eb; (simp only [condK, cob, opnd, constPV, Nat.reduceEqDiff, Nat.reduceLT, ↓reduceIte, hcb, reduceCtorEq, forall_const, ne_eq]); subst ea eb; first | (refine ⟨fun hc => ?_, fun hc => ?_⟩ <;> first | (exfalso; omega) | (exfalso; exact hc trivial) | skip) | skip)
    | (with_reducible apply hnx; clear hnx nx)
    | (with_reducible refine And.intro (by omega) ?_)
    | (with_reducible refine And.intro ?_ ?_)
    | (with_reducible refine pcall_k (c1) ?_; rintro _ _ ⟨rfl, rfl⟩ -; refine Ev_in ?_)
    | (with_reducible refine pcall_k (c2) ?_; rintro _ _ ⟨rfl, rfl⟩ -; refine Ev_in ?_)
    | (clear hnx nx; with_reducible apply hnx; clear hnx nx)
    | (clear hnx nx; clear hnx nx; with_reducible apply hnx; clear hnx nx)
    | (clear hnx nx; clear hnx nx; clear hnx nx; with_reducible apply hnx; clear hnx nx))
      all_goals first
        | exact absurd trivial hc
        | (exfalso
           omega)
        | (refine hfin _ _ (Fin_ret1 rfl (H := (nm, ⟨33, true, 1, [p].map pl⟩) :: endO e w m { s with owing := false }) ⟨?_, ?_⟩ ⟨nm, ⟨of_eq_false hnm.1.1, of_eq_false hnm.2.1.1, of_eq_false hnm.2.2.1⟩, ?_, rfl⟩)
           · intro x hx
             simp only [List.mem_cons, List.not_mem_nil, or_false] at hx ⊢
             rcases hx with rfl | rfl | rfl | rfl
             · exact .inl (by simp [flat, PV.cells])
             · exact .inr (.inl rfl)
             · exact .inr (.inr (.inl rfl))
             · exact .inr (.inr (.inr rfl))
           · simp [names, hM, hnm]
           · simp only [fr_getD_cons, Nat.reduceEqDiff, Nat.reduceLT, ↓reduceIte]
             rfl)
    · rw [if_neg hx] at hfin
      obtain ⟨acc, hacc⟩ : ∃ acc, acc = (List.range i).map (pktL s) := ⟨_, rfl⟩
      have hal : acc.length = i := by rw [hacc]; simp
      rw [← hacc] at hfin ⊢
      repeat' (first
    | (with_reducible apply W_seq_k; intro nx hnx)
    | (with_reducible first | apply W_block | apply W_scope)
    | (with_reducible refine W_prune 7340093 ?_; simp only [prb, Nat.reducePow, Nat.reduceDiv, Nat.reduceMod, Nat.reduceBEq]; first | (with_reducible apply W_region_l) | with_reducible refine W_region_draw (id := 2) 1 (.op 0 true (.op 1 true (.op 2 true (.op 3 true (.op 4 true (.op 5 true (.op 6 true (.op 7 true (.op 8 true (.op 9 true (.op 10 true (.op 11 true (.op 12 true (.op 13 true (.op 14 true (.op 15 true (.op 16 true (.done)))))))))))))))))) (by kernel_rfl) ?_ | with_reducible refine W_region_draw (id := 5) 8 (.op 0 true (.op 1 true (.op 2 true (.op 3 true (.op 4 true (.op 5 true (.op 6 true (.op 7 true (.op 8 true (.op 9 true (.op 10 true (.op 11 true (.op 12 true (.op 13 true (.op 14 true (.op 15 true (.op 16 true (.op 17 true (.op 18 true (.op 19 false (.op 20 false (.op 21 false (.op 22 true (.done)))))))))))))))))))))))) (by kernel_rfl) ?_ | with_reducible refine W_region_draw (id := 8) 6 (.op 0 true (.op 1 true (.op 2 true (.op 3 true (.op 4 true (.op 5 true (.op 6 true (.op 7 true (.op 8 true (.op 9 true (.op 10 true (.op 11 false (.op 12 false (.op 13 false (.op 14 true (.done)))))))))))))))) (by kernel_rfl) ?_)
    | (with_reducible refine WL_born (by simp) rfl (by simp) ?_; simp only [elemsOf, nl, List.map_cons, List.map_nil, Nat.reduceEqDiff, ↓reduceIte, List.take_succ_cons, List.take_zero, List.range_succ, List.range_zero, List.nil_append, List.cons_append, List.map_append, List.drop_succ_cons, List.drop_zero, Nat.reduceMul, Nat.zero_mul, Nat.one_mul, Nat.reduceAdd])
    | ((first | (with_reducible apply WL_op; intro nx hnx) | with_reducible refine Ev_out ?_ | (with_reducible apply popsD_op; intro nx hnx) | (with_reducible refine popsD_alt ?_ ?_; intro nx hnx) | (with_reducible refine pfresh_k hnm fun nm hnm => ?_; (try simp only [fmb] at hnm)) | (with_reducible refine pborn_im ?_; simp only [elemsOf, nl, List.map_cons, List.map_nil, Nat.reduceEqDiff, ↓reduceIte, List.take_succ_cons, List.take_zero, List.range_succ, List.range_zero, List.nil_append, List.cons_append, List.map_append, List.drop_succ_cons, List.drop_zero, Nat.reduceMul, Nat.zero_mul, Nat.one_mul, Nat.reduceAdd]) | (with_reducible refine pmaybe_k ?_; intro bn hbn)); try (simp (maxSteps := 2000000) (disch := omega) only [evb, evd, pbuiltin, constPV, pnck, seqK, blockK, scopeK, pbin, pun, ppick, plen, piaddr, pindex, pfield, pslice, pbound, pconv, pelems, pextract, pmm, PV.mem?, PV.one, PV.cells, pageq, peqs, peq1, pmakes, pstore, pbytes, pmark, psrc, pkey, pnile, pcap, pgrow, List.set, Value.cells, ↓popG_eq, ↓pop.eq_1, ↓List.getElem?_map, ↓List.getElem?_cons_zero, ↓List.getElem?_cons_succ, Value.oneCell', Nat.reduceAdd, Nat.reduceMul, Nat.reduceSub, Nat.reduceLeDiff, Nat.reduceEqDiff, ↓reduceIte, ne_eq, reduceCtorEq, forall_const, exists_and_left, exists_eq_left', eq_self, Nat.reduceLT, Int.reduceLT, Int.reduceLE, Int.reduceToNat, Int.reduceAdd, Int.reduceSub, Int.reduceNeg, hnm, Try.tf0, Try.tf1, Try.tf2, Try.tf3, Try.tf4, Try.tf5, Try.tf6, Try.tf22, Try.tf28, Try.tf33, Try.tf35, Try.tf65, Try.tf68, Try.teq79, Try.call24, Try.call33, hM, hN, hN2]); repeat (refine And.intro (by omega) ?_))
    | ((with_reducible first | apply WL_nil | apply W_label | apply W_skip | apply W_exit | apply W_ret | apply popsD_done); try simp only [seqK, blockK, scopeK, ↓reduceIte, Nat.reduceEqDiff])
    | with_reducible exact popsD_stop
    | (with_reducible apply pguard_intro <;> (intro hc; (try simp only [hcb, reduceCtorEq, forall_const, ne_eq] at hc); first | (exfalso; omega) | (exfalso; exact hc trivial) | refine Ev_in ?_))
    | (with_reducible apply W_cond_k; intro _ _ ea eb; (simp only [condK, cob, opnd, constPV, Nat.reduceEqDiff, Nat.reduceLT, ↓reduceIte, hcb, reduceCtorEq, forall_const, ne_eq]); subst ea eb; first | (refine ⟨fun hc => ?_, fun hc => ?_⟩ <;> first | (exfalso; omega) | (exfalso; exact hc trivial) | skip) | skip)
    | (with_reducible apply hnx; clear hnx nx)
    | (with_reducible refine And.intro (by omega) ?_)
    | (with_reducible refine And.intro ?_ ?_)
    | (with_reducible refine pcall_k (c1) ?_; rintro _ _ ⟨rfl, rfl⟩ -; refine Ev_in ?_)
    | (with_reducible refine pcall_k (c2) ?_; rintro _ _ ⟨rfl, rfl⟩ -; refine Ev_in ?_)
    | (clear hnx nx; with_reducible apply hnx; clear hnx nx)
    | (clear hnx nx; clear hnx nx; with_reducible apply hnx; clear hnx nx)
    | (clear hnx nx; clear hnx nx; clear hnx nx; with_reducible apply hnx; clear hnx nx))
      all_goals first
        | (exfalso
           omega)
        | skip
      all_goals first
        | exact absurd ⟨by omega, by assumption⟩ hx
        | (refine hfin _ _ (Fin_ret1 rfl (H := (n, ⟨33, true, 1, acc.map pl⟩) :: endO e w m { s with owing := false }) (Sub_refl (by simp [names, hM, hN, hN2])) ⟨n, hN0, ?_, rfl⟩)
           simp only [fr_getD_cons, Nat.reduceEqDiff, Nat.reduceLT, ↓reduceIte])
theorem out_c (G : Globs) (e : Int) (s : LE) (hs : OkE s) (hwin : s.win ≤ 1000) (hW : ∀ b ∈ s.wait, b.length ≤ 65536) (Hin : Heap) (hH : IsEnd e s Hin) :
    PCalls Try.prog G 13 [.ptr e 0] Hin (fun res H => res = .list 1 ((outL s).1.map pl) ∧ IsEnd e (outL s).2 H) := by
  obtain ⟨w, m, rfl⟩ := hH
  refine (out_r G e w m s hs hwin hW).wxs ?_
  rintro _ _ ⟨n, ⟨h1, h2, h3⟩, rfl, rfl⟩
  have hl : (outL s).1.length = ((outL s).1.map pl).length := by rw [List.length_map]
  rw [hl]
  exact Wxs_row (by simp [names, h1, h2, h3]) (end_frz h1 h2 h3) ⟨_, rfl, rfl, w, m, rfl⟩
end Go.PM

namespace Go.PM
open Go.Proofs
theorem open_seal (key : UInt64) (c : List UInt8) : openF key (c ++ sealB key c) = (c, 0) := by
  have hl := sealB_len key c
  have hn : (c ++ sealB key c).length - 8 = c.length := by rw [List.length_append, hl]; omega
  unfold openF
  rw [if_neg (by rw [List.length_append, hl]; omega), hn, List.take_left' rfl, List.drop_left' rfl, if_pos rfl]
end Go.PM

namespace Go.PM
open Go.Proofs
theorem readF_pack (q a : Int) (c : List UInt8) (h1 : inR q) (h2 : inR a) (hq : 0 ≤ q) (ha : 0 ≤ a) (hc : c.length ≤ 65536) (h : 0 < q ∨ c.length = 0) : readF (packB q a c) = ((q, a, c), true) := by
  have g1 : gLs gI 1 (packB q a c) = ([q, a], (encL intB [q, a]).length, 0) := by
    refine gLs_enc (g := gI) (enc := intB) 1 [q, a] (bytesB c) (by omega) (by simp) ?_ ?_
    · intro x hx t
      simp only [List.mem_cons, List.not_mem_nil, or_false] at hx
      rcases hx with rfl | rfl
      · exact gI_intB h1 t
      · exact gI_intB h2 t
    · intro x hx
      simp [intB]
  have g2 : gS (bytesB c) = (c, (bytesB c).length, 0) := by
    have := gS_enc c [] (by omega)
    simpa using this
  have hd : (packB q a c).drop (encL intB [q, a]).length = bytesB c := by
    unfold packB
    exact List.drop_left' rfl
  have hX : readF (packB q a c) = if (gLs gI 1 (packB q a c)).2.2 ≠ 0 ∨ (gLs gI 1 (packB q a c)).1.length ≠ 2 then ((0, 0, []), false)
    else if (gS ((packB q a c).drop (gLs gI 1 (packB q a c)).2.1)).2.2 ≠ 0 ∨ (gLs gI 1 (packB q a c)).2.1 + (gS ((packB q a c).drop (gLs gI 1 (packB q a c)).2.1)).2.1 ≠ (packB q a c).length then ((0, 0, []), false)
    else (((gLs gI 1 (packB q a c)).1.getD 0 0, (gLs gI 1 (packB q a c)).1.getD 1 0, (gS ((packB q a c).drop (gLs gI 1 (packB q a c)).2.1)).1), okP ((gLs gI 1 (packB q a c)).1.getD 0 0, (gLs gI 1 (packB q a c)).1.getD 1 0, (gS ((packB q a c).drop (gLs gI 1 (packB q a c)).2.1)).1)) := rfl
  rw [hX, g1]
  simp only [hd, g2]
  rw [if_neg (by simp), if_neg (by simp [packB])]
  have hok : okP (q, a, c) = true := by
    simp only [okP, Bool.and_eq_true, Bool.or_eq_true, decide_eq_true_eq]
    exact ⟨⟨⟨hq, ha⟩, hc⟩, h⟩
  simp only [List.getD_cons_zero, List.getD_cons_succ, hok]
/-- A packet comes in. -/
theorem in_pack (s : LE) (q a : Nat) (c : List UInt8) (h1 : q ≤ 4000000000) (h2 : a ≤ 4000000000) (hc : c.length ≤ 65536) (h : 0 < q ∨ c.length = 0) :
    inL s (sealP s.key q a c) = (((takeL s (q, a, c)).1, 0), (takeL s (q, a, c)).2) := by
  have hr := readF_pack q a c ⟨by omega, by omega⟩ ⟨by omega, by omega⟩ (by omega) (by omega) hc (by omega)
  have ho : openF s.key (sealP s.key q a c) = (packB q a c, 0) := open_seal s.key (packB q a c)
  unfold inL
  rw [ho]
  simp only [hr]
  rw [if_neg (by omega), if_neg (by omega), if_neg (by simp)]
end Go.PM

namespace Go.PM
open Go.Proofs
/-- The reference's end of a link. -/
structure RE where
  win : Nat
  key : UInt64
  sent : List (List UInt8)
  acked : Nat
  got : Nat
  held : List (Nat × List UInt8)
  owing : Bool
  forged : Nat
@[reducible] def heldC (l : List (Nat × List UInt8)) : List PV := l.flatMap fun x => [pint .i64 x.1, pl x.2]
/-- The reference's end in memory. -/
@[reducible] def refO (e w m : Int) (s : RE) : Heap :=
  [(e, ⟨31, false, 0, [pint .i64 s.win, pq s.key, .row w 1 s.sent.length, pint .i64 s.acked, pint .i64 s.got, .row m 2 s.held.length, pbool s.owing, pint .i64 s.forged]⟩), (w, ⟨33, true, 1, s.sent.map pl⟩), (m, ⟨78, true, 2, heldC s.held⟩)]
@[reducible] def IsRef (e : Int) (s : RE) (H : Heap) : Prop := ∃ w m, H = refO e w m s
attribute [local irreducible] W PCalls pcall pcallI WL
/-- As an end of the program's. -/
@[reducible] def toL (r : RE) : LE := ⟨r.win, r.key, r.sent.drop r.acked, r.acked, r.got, r.held, r.owing, r.forged⟩
/-- The reference's end with what has become of it. -/
@[reducible] def frL (r : RE) (s : LE) : RE := ⟨r.win, r.key, r.sent, s.acked, s.got, s.held, s.owing, s.forged⟩
def rsendL (r : RE) (b : List UInt8) : Int × RE := ((sendL (toL r) b).1, if (sendL (toL r) b).1 = 0 then { r with sent := r.sent ++ [b] } else r)
end Go.PM

namespace Go.PM
open Go.Proofs
/-- Lists of bytes and an error come back, and a reference's end: none, or a row of one's own. -/
@[reducible] def RinRow (e : Int) (x : List (List UInt8) × Int) (r : RE) (res : PV) (H : Heap) : Prop := ∃ (n : Int) (H' : Heap), res = .tuple [.row n 1 x.1.length, pint .i64 x.2] ∧ H = (n, ⟨33, true, 1, x.1.map pl⟩) :: H' ∧ IsRef e r H'
@[reducible] def RinR (e : Int) (x : List (List UInt8) × Int) (r : RE) (res : PV) (H : Heap) : Prop := (x.1 = [] ∧ res = .tuple [.list 1 [], pint .i64 x.2] ∧ IsRef e r H) ∨ RinRow e x r res H
@[reducible] def RinR0 (e : Int) (x : List (List UInt8) × Int) (r : RE) (res : PV) (H : Heap) : Prop := (x.1 = [] ∧ res = .tuple [pnil, pint .i64 x.2] ∧ IsRef e r H) ∨ RinRow e x r res H
theorem RinR0.up {G : Globs} {f : FuncId} {args : List PV} {Hin : Heap} {e : Int} {x : List (List UInt8) × Int} {r : RE} (h : PCalls Try.prog G f args Hin (RinR0 e x r)) : PCalls Try.prog G f args Hin (RinR e x r) := by
  refine h.rep ?_
  rintro res H (⟨h1, rfl, hE⟩ | hE)
  · exact ⟨_, rep_nil2 1 _, .inl ⟨h1, rfl, hE⟩⟩
  · exact ⟨_, fun _ _ _ h => h, .inr hE⟩
attribute [local irreducible] W PCalls pcall pcallI WL
end Go.PM

namespace Go.PM
open Go.Proofs
attribute [local irreducible] W PCalls pcall pcallI WL
theorem ack_acked (r : RE) (a : Nat) (h : r.acked ≤ r.sent.length) : ackL (toL r) a = { toL r with wait := r.sent.drop (max r.acked a), acked := max r.acked a } := by
  unfold ackL
  by_cases ha : (toL r).acked < a
  · rw [if_pos ha]
    have ha2 : r.acked < a := ha
    have e1 : max r.acked a = a := by omega
    simp only [toL, List.drop_drop, e1]
    congr 2
    omega
  · rw [if_neg ha]
    have ha2 : ¬ r.acked < a := ha
    have e1 : max r.acked a = r.acked := by omega
    simp only [toL, e1]
end Go.PM

namespace Go.PM
open Go.Proofs
attribute [local irreducible] W PCalls pcall pcallI WL
end Go.PM

namespace Go.PM
open Go.Proofs
theorem pull_len {k : Nat} {h : List (Nat × List UInt8)} {b : List UInt8} {h' : List (Nat × List UInt8)} (hp : pull k h = some (b, h')) : h'.length + 1 = h.length := by
  obtain ⟨j, _, _, h3, _⟩ := pull_some 0 hp
  exact h3
theorem delF_none : ∀ (n g : Nat) (h : List (Nat × List UInt8)), h.length ≤ n → pull ((delF n g h).2.1 + 1) (delF n g h).2.2 = none
  | 0, g, h, hl => by
    have : h = [] := List.eq_nil_of_length_eq_zero (by omega)
    subst this
    rfl
  | n + 1, g, h, hl => by
    simp only [delF]
    cases hp : pull (g + 1) h with
    | none => exact hp
    | some x =>
      obtain ⟨b, h'⟩ := x
      have := pull_len hp
      exact delF_none n (g + 1) h' (by omega)
theorem delF_sum : ∀ (n g : Nat) (h : List (Nat × List UInt8)), (delF n g h).2.1 + (delF n g h).2.2.length = g + h.length
  | 0, g, h => rfl
  | n + 1, g, h => by
    simp only [delF]
    cases hp : pull (g + 1) h with
    | none => rfl
    | some x =>
      obtain ⟨b, h'⟩ := x
      have := pull_len hp
      have := delF_sum n (g + 1) h'
      simp only
      omega
theorem pull_sub {k : Nat} : ∀ {h : List (Nat × List UInt8)} {b : List UInt8} {h' : List (Nat × List UInt8)}, pull k h = some (b, h') → (k, b) ∈ h ∧ ∀ y ∈ h', y ∈ h
  | [], _, _, hp => by cases hp
  | x :: r, b, h', hp => by
    simp only [pull] at hp
    split at hp
    · rename_i hx
      cases hp
      refine ⟨?_, fun y hy => List.mem_cons_of_mem _ hy⟩
      rw [← hx]
      exact List.mem_cons_self
    · cases hr : pull k r with
      | none => rw [hr] at hp; cases hp
      | some y =>
        rw [hr] at hp
        simp only [Option.map_some, Option.some.injEq, Prod.mk.injEq] at hp
        obtain ⟨rfl, rfl⟩ := hp
        obtain ⟨h1, h2⟩ := pull_sub (show pull k r = some (y.1, y.2) from hr)
        refine ⟨List.mem_cons_of_mem _ h1, fun z hz => ?_⟩
        rcases List.mem_cons.1 hz with rfl | hz
        · exact List.mem_cons_self
        · exact List.mem_cons_of_mem _ (h2 z hz)
theorem delF_sub : ∀ (n g : Nat) (h : List (Nat × List UInt8)), (∀ y ∈ (delF n g h).2.2, y ∈ h) ∧ (∀ b ∈ (delF n g h).1, ∃ q, (q, b) ∈ h) ∧ (delF n g h).1.length + (delF n g h).2.2.length = h.length
  | 0, g, h => ⟨fun y hy => hy, fun b hb => absurd hb List.not_mem_nil, by simp [delF]⟩
  | n + 1, g, h => by
    simp only [delF]
    cases hp : pull (g + 1) h with
    | none => exact ⟨fun y hy => hy, fun b hb => absurd hb List.not_mem_nil, by simp⟩
    | some x =>
      obtain ⟨b, h'⟩ := x
      have h1 := pull_len hp
      obtain ⟨h2, h3⟩ := pull_sub hp
      obtain ⟨k1, k2, k3⟩ := delF_sub n (g + 1) h'
      refine ⟨fun y hy => h3 y (k1 y hy), fun c hc => ?_, ?_⟩
      · rcases List.mem_cons.1 hc with rfl | hc
        · exact ⟨_, h2⟩
        · obtain ⟨q, hq⟩ := k2 c hc
          exact ⟨q, h3 _ hq⟩
      · simp only [List.length_cons]
        omega
/-- What holds of an end after i calls. -/
structure RunE (i : Nat) (key : UInt64) (r : RE) : Prop where
  key : r.key = key
  win : r.win ≤ 16
  sent : r.sent.length ≤ i
  acked : r.acked ≤ r.sent.length
  got : r.got + r.held.length ≤ i
  forged : r.forged ≤ i
  none : pull (r.got + 1) r.held = none
  msgs : ∀ b ∈ r.sent, b.length ≤ 65536
  hms : ∀ y ∈ r.held, y.2.length ≤ 65536
theorem RunE.up {i j : Nat} {key : UInt64} {r : RE} (h : RunE i key r) (hij : i ≤ j) : RunE j key r :=
  ⟨h.key, h.win, Nat.le_trans h.sent hij, h.acked, Nat.le_trans h.got hij, Nat.le_trans h.forged hij, h.none, h.msgs, h.hms⟩
theorem RunE.okE {i : Nat} {key : UInt64} {r : RE} (h : RunE i key r) (hi : i ≤ 1000) : OkE (toL r) := by
  obtain ⟨_, _, h1, h2, h3, h4, h5, _, _⟩ := h
  refine ⟨?_, ?_, ?_, ?_⟩
  · simp only [toL, List.length_drop]
    omega
  · simp only [toL, List.length_drop]
    omega
  · simp only [toL]
    omega
  · simp only [toL]
    omega
theorem RunE.send {i : Nat} {key : UInt64} {r : RE} {b : List UInt8} (h : RunE i key r) (hb : b.length ≤ 65536) : RunE (i + 1) key (rsendL r b).2 := by
  have hh := h
  obtain ⟨h0, h00, h1, h2, h3, h4, h5, h6, h7⟩ := h
  unfold rsendL
  split
  · refine ⟨h0, h00, ?_, ?_, ?_, ?_, h5, ?_, h7⟩
    · simp only [List.length_append, List.length_cons, List.length_nil]
      omega
    · simp only [List.length_append, List.length_cons, List.length_nil]
      omega
    · simp only
      omega
    · simp only
      omega
    · intro x hx
      rcases List.mem_append.1 hx with hx | hx
      · exact h6 x hx
      · simp only [List.mem_cons, List.not_mem_nil, or_false] at hx
        subst hx
        exact hb
  · exact hh.up (Nat.le_succ i)
theorem RunE.out {i : Nat} {key : UInt64} {r : RE} (h : RunE i key r) : RunE (i + 1) key { r with owing := false } := by
  obtain ⟨h0, h00, h1, h2, h3, h4, h5, h6, h7⟩ := h
  exact ⟨h0, h00, by simp only; omega, h2, by simp only; omega, by simp only; omega, h5, h6, h7⟩
theorem delL_run {i : Nat} {key : UInt64} {r : RE} {s : LE} (h : RunE i key r) (h1 : s.key = r.key ∧ s.win = r.win ∧ s.acked ≤ r.sent.length ∧ s.wait = r.sent.drop s.acked ∧ s.got + s.held.length ≤ i + 1 ∧ s.forged ≤ i + 1) (h9 : ∀ y ∈ s.held, y.2.length ≤ 65536) :
    (RunE (i + 1) key (frL r (delL s).2) ∧ toL (frL r (delL s).2) = (delL s).2) ∧ (delL s).1.length ≤ i + 1 ∧ ∀ b ∈ (delL s).1, b.length ≤ 65536 := by
  obtain ⟨k1, k2, k3, k4, k5, k6⟩ := h1
  obtain ⟨h0, h00, h1, h2, h3, h4, h5, h6, h7⟩ := h
  have e1 := delF_none s.held.length s.got s.held (Nat.le_refl _)
  have e2 := delF_sum s.held.length s.got s.held
  obtain ⟨e3, e4, e5⟩ := delF_sub s.held.length s.got s.held
  refine ⟨⟨⟨h0, h00, by simp only [frL]; omega, k3, ?_, k6, e1, h6, fun y hy => h9 y (e3 y hy)⟩, ?_⟩, ?_, ?_⟩
  · simp only [frL, delL]
    omega
  · simp only [toL, frL, delL, ← k4, k1, k2]
  · simp only [delL]
    omega
  · intro b hb
    obtain ⟨q, hq⟩ := e4 b hb
    exact h9 _ hq
theorem same_run {i : Nat} {key : UInt64} {r : RE} {s : LE} (h : RunE i key r) (h1 : s.key = r.key ∧ s.win = r.win ∧ s.acked ≤ r.sent.length ∧ s.wait = r.sent.drop s.acked ∧ s.got = r.got ∧ s.held = r.held ∧ s.forged ≤ i + 1) :
    (RunE (i + 1) key (frL r s) ∧ toL (frL r s) = s) ∧ ([] : List (List UInt8)).length ≤ i + 1 ∧ ∀ b ∈ ([] : List (List UInt8)), b.length ≤ 65536 := by
  obtain ⟨k1, k2, k3, k4, k5, k5', k6⟩ := h1
  obtain ⟨h0, h00, h1, h2, h3, h4, h5, h6, h7⟩ := h
  refine ⟨⟨⟨h0, h00, by simp only [frL]; omega, k3, ?_, k6, ?_, h6, ?_⟩, ?_⟩, by simp, by simp⟩
  · simp only [frL, k5, k5']
    omega
  · simp only [frL, k5, k5']
    exact h5
  · simp only [frL, k5']
    exact h7
  · simp only [toL, frL, ← k4, ← k1, ← k2]
theorem RunE.in_ {i : Nat} {key : UInt64} {r : RE} (h : RunE i key r) (x : List UInt8) : (RunE (i + 1) key (frL r (inL (toL r) x).2) ∧ toL (frL r (inL (toL r) x).2) = (inL (toL r) x).2) ∧ (inL (toL r) x).1.1.length ≤ i + 1 ∧ ∀ b ∈ (inL (toL r) x).1.1, b.length ≤ 65536 := by
  have hf := h.forged
  have ha := h.acked
  have hg := h.got
  unfold inL
  split
  · exact same_run h ⟨rfl, rfl, ha, rfl, rfl, rfl, by simp only [toL]; omega⟩
  split
  · exact same_run h ⟨rfl, rfl, ha, rfl, rfl, rfl, by simp only [toL]; omega⟩
  split
  · exact same_run h ⟨rfl, rfl, ha, rfl, rfl, rfl, by simp only [toL]; omega⟩
  rename_i hread
  have hok := readF_ok (by simpa using hread)
  simp only
  generalize (readF (openF (toL r).key x).1).1 = p at *
  unfold takeL
  have hlen : (toL r).acked + (toL r).wait.length = r.sent.length := by simp only [toL, List.length_drop]; omega
  rw [hlen, ack_acked r p.2.1.toNat ha]
  split
  · exact same_run h ⟨rfl, rfl, ha, rfl, rfl, rfl, by simp only [toL]; omega⟩
  rename_i hbad
  split
  · exact same_run h ⟨rfl, rfl, by simp only; omega, rfl, rfl, rfl, by simp only [toL]; omega⟩
  · unfold holdL
    split
    · refine delL_run h ⟨rfl, rfl, by simp only; omega, rfl, by simp only [toL, List.length_append, List.length_cons, List.length_nil]; omega, by simp only [toL]; omega⟩ ?_
      intro y hy
      rcases List.mem_append.1 hy with hy | hy
      · exact h.hms y hy
      · simp only [List.mem_cons, List.not_mem_nil, or_false] at hy
        subst hy
        exact hok.2.2
    · exact delL_run h ⟨rfl, rfl, by simp only; omega, rfl, by simp only [toL]; omega, by simp only [toL]; omega⟩ h.hms
theorem packB_ge (q a : Int) (b : List UInt8) (h1 : inR q) (h2 : inR a) (hb : b.length ≤ 100000) : 4 ≤ (packB q a b).length := by
  have n2 := intB_len9 (n := 2) ⟨by omega, by omega⟩
  have ns := intB_len9 h1
  have na := intB_len9 h2
  have nb := intB_len9 (n := b.length) ⟨by omega, by omega⟩
  simp [packB, encL, bytesB]
  omega
theorem sealP_ge (key : UInt64) (q a : Int) (b : List UInt8) (h1 : inR q) (h2 : inR a) (hb : b.length ≤ 100000) : 12 ≤ (sealP key q a b).length := by
  have := packB_ge q a b h1 h2 hb
  have := sealB_len key (packB q a b)
  rw [sealP, List.length_append]
  omega
theorem sealP_le (key : UInt64) (q a : Int) (b : List UInt8) (h1 : inR q) (h2 : inR a) (hb : b.length ≤ 100000) : (sealP key q a b).length ≤ 200000 := by
  have := packB_len q a b h1 h2 hb
  have := sealB_len key (packB q a b)
  rw [sealP, List.length_append]
  omega
/-- What packets are sent. -/
theorem RunE.packets {i : Nat} {key : UInt64} {r : RE} (h : RunE i key r) (hi : i ≤ 1000) : (outL (toL r)).1.length ≤ 16 ∧ ∀ p ∈ (outL (toL r)).1, 12 ≤ p.length ∧ p.length ≤ 200000 := by
  obtain ⟨h0, h00, h1, h2, h3, h4, h5, h6, h7⟩ := h
  unfold outL
  simp only
  split
  · refine ⟨by simp, fun p hp => ?_⟩
    simp only [List.mem_cons, List.not_mem_nil, or_false] at hp
    subst hp
    have a1 : inR ((toL r).got : Int) := ⟨by simp only [toL]; omega, by simp only [toL]; omega⟩
    exact ⟨sealP_ge _ 0 _ [] ⟨by omega, by omega⟩ a1 (by simp), sealP_le _ 0 _ [] ⟨by omega, by omega⟩ a1 (by simp)⟩
  · refine ⟨?_, fun p hp => ?_⟩
    · simp only [outP, List.length_map, List.length_range, toL]
      omega
    · obtain ⟨j, hj, rfl⟩ := List.mem_map.1 hp
      rw [List.mem_range] at hj
      have a1 : inR ((toL r).got : Int) := ⟨by simp only [toL]; omega, by simp only [toL]; omega⟩
      have hj2 : j < (toL r).wait.length := by omega
      have hjd : (toL r).wait.length = r.sent.length - r.acked := by simp only [toL, List.length_drop]
      have a2 : inR (((toL r).acked + j + 1 : Nat) : Int) := ⟨by simp only [toL]; omega, by simp only [toL]; omega⟩
      have a3 : ((toL r).wait.getD j []).length ≤ 100000 := by
        rw [List.getD_eq_getElem?_getD, List.getElem?_eq_getElem hj2]
        have : (toL r).wait[j] ∈ r.sent := List.mem_of_mem_drop (List.getElem_mem hj2)
        have := h6 _ this
        exact Nat.le_trans this (by omega)
      exact ⟨sealP_ge _ _ _ _ a2 a1 a3, sealP_le _ _ _ _ a2 a1 a3⟩
end Go.PM

namespace Go.PM
open Go.Proofs
/-- What an end has, as far as order goes. S: what it has sent; T: what the other one has sent; pg: how much of S the other one has delivered. -/
structure OrdE (i : Nat) (key : UInt64) (S T : List (List UInt8)) (pg : Nat) (s : LE) : Prop where
  key : s.key = key
  win : s.win ≤ 16
  wpos : 1 ≤ s.win
  len : S.length ≤ i
  acked : s.acked ≤ pg
  pg : pg ≤ S.length
  wait : s.wait = S.drop s.acked
  got : s.got ≤ T.length
  tlen : T.length ≤ i
  held : ∀ y ∈ s.held, 1 ≤ y.1 ∧ T[y.1 - 1]? = some y.2
  room : s.got + s.held.length ≤ i
  forged : s.forged = 0
  msgs : ∀ b ∈ S, b.length ≤ 65536
/-- A packet of an end that has sent S and delivered pg. -/
def PkO (key : UInt64) (S : List (List UInt8)) (pg : Nat) (x : List UInt8) : Prop :=
  ∃ (q a : Nat) (b : List UInt8), x = sealP key q a b ∧ a ≤ pg ∧ b.length ≤ 65536 ∧ ((q = 0 ∧ b = []) ∨ (1 ≤ q ∧ S[q - 1]? = some b))
variable {i j pg : Nat} {key : UInt64} {S T : List (List UInt8)} {s : LE}
theorem OrdE.up (h : OrdE i key S T pg s) (hij : i ≤ j) : OrdE j key S T pg s :=
  ⟨h.key, h.win, h.wpos, Nat.le_trans h.len hij, h.acked, h.pg, h.wait, h.got, Nat.le_trans h.tlen hij, h.held, Nat.le_trans h.room hij, h.forged, h.msgs⟩
theorem OrdE.okE (h : OrdE i key S T pg s) (hi : i ≤ 500000) : OkE s := by
  have h1 := h.len
  have h2 := h.pg
  have h3 := h.acked
  have h4 := h.room
  have h5 := h.forged
  have h6 : s.wait.length = S.length - s.acked := by rw [h.wait, List.length_drop]
  refine ⟨?_, ?_, ?_, ?_⟩ <;> omega
theorem OrdE.wlen (h : OrdE i key S T pg s) : s.wait.length = S.length - s.acked := by rw [h.wait, List.length_drop]
theorem OrdE.wmsgs (h : OrdE i key S T pg s) : ∀ b ∈ s.wait, b.length ≤ 65536 := by
  intro b hb
  rw [h.wait] at hb
  exact h.msgs b (List.mem_of_mem_drop hb)
theorem OrdE.ext (h : OrdE i key S T pg s) (b : List UInt8) (hi : T.length + 1 ≤ j) (hij : i ≤ j) : OrdE j key S (T ++ [b]) pg s := by
  refine ⟨h.key, h.win, h.wpos, Nat.le_trans h.len hij, h.acked, h.pg, h.wait, ?_, ?_, fun y hy => ?_, Nat.le_trans h.room hij, h.forged, h.msgs⟩
  · have := h.got
    rw [List.length_append]
    omega
  · rw [List.length_append]
    simpa using hi
  · obtain ⟨h1, h2⟩ := h.held y hy
    refine ⟨h1, ?_⟩
    have hl : y.1 - 1 < T.length := by
      rcases Nat.lt_or_ge (y.1 - 1) T.length with k | k
      · exact k
      · rw [List.getElem?_eq_none k] at h2
        cases h2
    rw [List.getElem?_append_left hl]
    exact h2
theorem OrdE.more (h : OrdE i key S T pg s) {pg' : Nat} (h1 : pg ≤ pg') (h2 : pg' ≤ S.length) : OrdE i key S T pg' s :=
  ⟨h.key, h.win, h.wpos, h.len, Nat.le_trans h.acked h1, h2, h.wait, h.got, h.tlen, h.held, h.room, h.forged, h.msgs⟩
theorem OrdE.send (h : OrdE i key S T pg s) (hi : i < 1000) (b : List UInt8) (hb : b.length ≤ 65536) : ∃ s', sendL s b = (0, s') ∧ s'.got = s.got ∧ OrdE (i + 1) key (S ++ [b]) T pg s' := by
  have h6 := h.wlen
  have h7 := h.len
  refine ⟨{ s with wait := s.wait ++ [b] }, ?_, rfl, ?_⟩
  · unfold sendL
    rw [if_neg (by omega)]
  · refine ⟨h.key, h.win, h.wpos, ?_, h.acked, ?_, ?_, h.got, Nat.le_succ_of_le h.tlen, h.held, Nat.le_succ_of_le h.room, h.forged, fun x hx => ?_⟩
    · rw [List.length_append]
      simp only [List.length_cons, List.length_nil]
      omega
    · have := h.pg
      rw [List.length_append]
      omega
    · have h1 := h.acked
      have h2 := h.pg
      show s.wait ++ [b] = (S ++ [b]).drop s.acked
      rw [List.drop_append_of_le_length (by omega), h.wait]
    · rcases List.mem_append.1 hx with hx | hx
      · exact h.msgs x hx
      · simp only [List.mem_cons, List.not_mem_nil, or_false] at hx
        subst hx
        exact hb
theorem PkO.mono {x : List UInt8} (h : PkO key S pg x) {S' : List (List UInt8)} {pg' : Nat} (h1 : pg ≤ pg') (h2 : ∃ r, S' = S ++ r) : PkO key S' pg' x := by
  obtain ⟨q, a, b, hx, ha, hb, hq⟩ := h
  refine ⟨q, a, b, hx, Nat.le_trans ha h1, hb, ?_⟩
  rcases hq with hq | ⟨hq, hs⟩
  · exact .inl hq
  · obtain ⟨r, rfl⟩ := h2
    refine .inr ⟨hq, ?_⟩
    have hl : q - 1 < S.length := by
      rcases Nat.lt_or_ge (q - 1) S.length with k | k
      · exact k
      · rw [List.getElem?_eq_none k] at hs
        cases hs
    rw [List.getElem?_append_left hl]
    exact hs
theorem PkO.len {x : List UInt8} (h : PkO key S pg x) (hS : S.length ≤ 500000) (hp : pg ≤ 500000) : x.length ≤ 200000 := by
  obtain ⟨q, a, b, rfl, ha, hb, hq⟩ := h
  refine sealP_le key _ _ _ ⟨by omega, ?_⟩ ⟨by omega, by omega⟩ (by omega)
  rcases hq with ⟨hq, _⟩ | ⟨hq, hs⟩
  · omega
  · have hl : q - 1 < S.length := by
      rcases Nat.lt_or_ge (q - 1) S.length with k | k
      · exact k
      · rw [List.getElem?_eq_none k] at hs
        cases hs
    omega
theorem OrdE.out (h : OrdE i key S T pg s) : (∀ x ∈ (outL s).1, PkO key S s.got x) ∧ (outL s).1.length ≤ 16 ∧ (outL s).2.got = s.got ∧ OrdE i key S T pg (outL s).2 := by
  refine ⟨?_, ?_, rfl, ⟨h.key, h.win, h.wpos, h.len, h.acked, h.pg, h.wait, h.got, h.tlen, h.held, h.room, h.forged, h.msgs⟩⟩
  · unfold outL
    simp only
    split
    · intro x hx
      simp only [List.mem_cons, List.not_mem_nil, or_false] at hx
      exact ⟨0, s.got, [], by rw [hx, h.key]; rfl, Nat.le_refl _, by simp, .inl ⟨rfl, rfl⟩⟩
    · intro x hx
      obtain ⟨k, hk, rfl⟩ := List.mem_map.1 hx
      rw [List.mem_range] at hk
      have hkl : k < s.wait.length := by omega
      have hw := h.wlen
      have e1 : s.wait[k]? = S[s.acked + k]? := by rw [h.wait, List.getElem?_drop]
      have e2 : s.wait.getD k [] = s.wait[k] := by rw [List.getD_eq_getElem?_getD, List.getElem?_eq_getElem hkl]; rfl
      refine ⟨s.acked + k + 1, s.got, s.wait.getD k [], by rw [pktL, h.key], Nat.le_refl _, ?_, .inr ⟨by omega, ?_⟩⟩
      · rw [e2]
        exact h.wmsgs _ (List.getElem_mem hkl)
      · rw [show s.acked + k + 1 - 1 = s.acked + k by omega, ← e1, e2, List.getElem?_eq_getElem hkl]
  · have := h.win
    unfold outL
    simp only
    split
    · simp
    · simp only [outP, List.length_map, List.length_range]
      omega
theorem delF_ord (T : List (List UInt8)) : ∀ (n g : Nat) (h : List (Nat × List UInt8)), (∀ y ∈ h, 1 ≤ y.1 ∧ T[y.1 - 1]? = some y.2) → g ≤ T.length →
    (delF n g h).1 = (T.drop g).take (delF n g h).1.length ∧ (delF n g h).2.1 = g + (delF n g h).1.length ∧ g + (delF n g h).1.length ≤ T.length
  | 0, g, h, _, hg => by simp [delF, hg]
  | n + 1, g, h, hh, hg => by
    simp only [delF]
    cases hp : pull (g + 1) h with
    | none => simp [hg]
    | some x =>
      obtain ⟨b, h'⟩ := x
      obtain ⟨h1, h2⟩ := pull_sub hp
      have h3 := (hh _ h1).2
      simp only [Nat.add_sub_cancel] at h3
      have hl : g < T.length := by
        rcases Nat.lt_or_ge g T.length with k | k
        · exact k
        · rw [List.getElem?_eq_none k] at h3
          cases h3
      obtain ⟨k1, k2, k3⟩ := delF_ord T n (g + 1) h' (fun y hy => hh y (h2 y hy)) (by omega)
      simp only [List.length_cons]
      refine ⟨?_, by omega, by omega⟩
      rw [List.drop_eq_getElem_cons hl, List.take_succ_cons, ← k1]
      rw [List.getElem?_eq_getElem hl] at h3
      cases h3
      rfl
theorem OrdE.in_ (h : OrdE i key S T pg s) (hi : i ≤ 500000) {x : List UInt8} (hx : PkO key T pg x) : ∃ l s', inL s x = ((l, 0), s') ∧ l = (T.drop s.got).take l.length ∧ s'.got = s.got + l.length ∧ OrdE (i + 1) key S T pg s' := by
  obtain ⟨q, a, b, rfl, ha, hb, hq⟩ := hx
  have hT := h.tlen
  have hS := h.len
  have hpg := h.pg
  have hql : q ≤ T.length := by
    rcases hq with ⟨hq, _⟩ | ⟨hq, hs⟩
    · omega
    · have hl : q - 1 < T.length := by
        rcases Nat.lt_or_ge (q - 1) T.length with k | k
        · exact k
        · rw [List.getElem?_eq_none k] at hs
          cases hs
      omega
  have e := in_pack s q a b (by omega) (by omega) hb (by
    rcases hq with ⟨_, rfl⟩ | ⟨hq, _⟩
    · exact .inr rfl
    · exact .inl hq)
  rw [h.key] at e
  refine ⟨_, _, e, ?_⟩
  have hw := h.wlen
  have hac := h.acked
  have hgot := h.got
  have hroom := h.room
  have hO : OrdE (i + 1) key S T pg s := h.up (Nat.le_succ i)
  have hA : OrdE (i + 1) key S T pg (ackL s a) ∧ (ackL s a).got = s.got ∧ (ackL s a).held = s.held := by
    unfold ackL
    split
    · rename_i hlt
      refine ⟨⟨h.key, h.win, h.wpos, Nat.le_succ_of_le h.len, ha, h.pg, ?_, h.got, Nat.le_succ_of_le h.tlen, h.held, Nat.le_succ_of_le h.room, h.forged, h.msgs⟩, rfl, rfl⟩
      show s.wait.drop (a - s.acked) = S.drop a
      rw [h.wait, List.drop_drop]
      congr 1
      omega
    · exact ⟨hO, rfl, rfl⟩
  unfold takeL
  simp only [Int.toNat_natCast]
  split
  · exact ⟨by simp, by simp, hO⟩
  split
  · exact ⟨by simp, by simp [hA.2.1], hA.1⟩
  rename_i hq0
  have hqs : 1 ≤ q ∧ T[q - 1]? = some b := by
    rcases hq with ⟨hq, _⟩ | hq
    · exact absurd hq hq0
    · exact hq
  obtain ⟨hA1, hA2, hA3⟩ := hA
  generalize ackL s a = s1 at *
  have hH : ∃ s2, holdL s1 q b = s2 ∧ s2.key = s1.key ∧ s2.win = s1.win ∧ s2.acked = s1.acked ∧ s2.wait = s1.wait ∧ s2.got = s1.got ∧ s2.forged = s1.forged ∧ (∀ y ∈ s2.held, 1 ≤ y.1 ∧ T[y.1 - 1]? = some y.2) ∧ s2.held.length ≤ s1.held.length + 1 := by
    unfold holdL
    split
    · refine ⟨_, rfl, rfl, rfl, rfl, rfl, rfl, rfl, ?_, by simp⟩
      intro y hy
      rcases List.mem_append.1 hy with hy | hy
      · exact hA1.held y hy
      · simp only [List.mem_cons, List.not_mem_nil, or_false] at hy
        subst hy
        exact hqs
    · exact ⟨_, rfl, rfl, rfl, rfl, rfl, rfl, rfl, hA1.held, Nat.le_succ _⟩
  obtain ⟨s2, hs2, k1, k2, k3, k4, k5, k6, k7, k8⟩ := hH
  rw [hs2]
  obtain ⟨d1, d2, d3⟩ := delF_ord T s2.held.length s2.got s2.held k7 (by rw [k5, hA2]; exact hgot)
  obtain ⟨e3, e4, e5⟩ := delF_sub s2.held.length s2.got s2.held
  have hs2g : s2.got = s.got := by rw [k5, hA2]
  refine ⟨?_, ?_, ?_⟩
  · show (delF s2.held.length s2.got s2.held).1 = _
    conv => lhs; rw [d1]
    rw [show (delL s2).1 = (delF s2.held.length s2.got s2.held).1 from rfl, hs2g]
  · show (delF s2.held.length s2.got s2.held).2.1 = _
    rw [d2, show (delL s2).1 = (delF s2.held.length s2.got s2.held).1 from rfl, hs2g]
  · refine ⟨k1.trans hA1.key, by show s2.win ≤ 16; rw [k2]; exact hA1.win, by show 1 ≤ s2.win; rw [k2]; exact hA1.wpos, hA1.len, by show s2.acked ≤ pg; rw [k3]; exact hA1.acked, hA1.pg, by show s2.wait = S.drop s2.acked; rw [k3, k4]; exact hA1.wait, ?_, hA1.tlen, fun y hy => k7 y (e3 y hy), ?_, by show s2.forged = 0; rw [k6]; exact hA1.forged, hA1.msgs⟩
    · show (delF s2.held.length s2.got s2.held).2.1 ≤ T.length
      omega
    · show (delF s2.held.length s2.got s2.held).2.1 + (delF s2.held.length s2.got s2.held).2.2.length ≤ i + 1
      have : s1.held.length = s.held.length := by rw [hA3]
      omega
end Go.PM
