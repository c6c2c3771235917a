/- Joined texts (Ug Uh Ui Uj Sm): the machine, the contracts, the laws. Conditions: none but those that each names. -/
import Derived.Test.YteblfgeonobmjaaDoorJe
set_option linter.unusedSimpArgs false
set_option linter.unusedVariables false
namespace Go.PM
open Go.Proofs
attribute [local irreducible] W PCalls pcall pcallI WL
/-- The numbers of a font that is made. -/
def fontB (l : List Int) : Font := if atF l 4 9 = 0 then ⟨1000, 1 + atF l 1 12, 1 + atF l 2 9, 50, []⟩ else ⟨1 + atF l 0 12, 1 + atF l 1 12, 1 + atF l 2 9, 90 + atF l 3 60, []⟩
def kernI (a : List Ltr) (l : List Int) (i : Nat) : Kern := ⟨chrF a (atF l (3 * i + 6) 1000).toNat, chrF a (atF l (3 * i + 7) 1000).toNat, 1 + atF l (3 * i + 8) 14⟩
def growK (a : List Ltr) (l : List Int) : Nat → List Kern
  | 0 => []
  | i + 1 => if okFont { fontB l with kerns := growK a l i ++ [kernI a l i] } then growK a l i ++ [kernI a l i] else growK a l i
def fontF (a : List Ltr) (l : List Int) : Font := { fontB l with kerns := growK a l (atF l 5 7).toNat }
theorem growK_len (a : List Ltr) (l : List Int) : ∀ i, (growK a l i).length ≤ i
  | 0 => Nat.le_refl _
  | i + 1 => by
    have := growK_len a l i
    unfold growK
    split
    · rw [List.length_append, List.length_singleton]
      omega
    · omega
theorem fontB_num (l : List Int) : (1 ≤ (fontB l).space ∧ (fontB l).space ≤ 1000) ∧ (1 ≤ (fontB l).digit ∧ (fontB l).digit ≤ 1000) ∧ (1 ≤ (fontB l).mark ∧ (fontB l).mark ≤ 1000) ∧ (50 ≤ (fontB l).bold ∧ (fontB l).bold ≤ 400) := by
  have h0 := atF_bound l 0 (most := 12) (by omega)
  have h1 := atF_bound l 1 (most := 12) (by omega)
  have h2 := atF_bound l 2 (most := 9) (by omega)
  have h3 := atF_bound l 3 (most := 60) (by omega)
  unfold fontB
  split <;> simp only <;> omega
theorem growK_ok (a : List Ltr) (l : List Int) : ∀ i, okFont { fontB l with kerns := growK a l i } = true
  | 0 => by
    obtain ⟨h1, h2, h3, h4⟩ := fontB_num l
    rw [okFont_iff]
    exact ⟨h1, h2, h3, h4, by simp [growK], by simp [growK], by simp [growK, pairs]⟩
  | i + 1 => by
    have ih := growK_ok a l i
    unfold growK
    split
    · assumption
    · exact ih
theorem fontF_ok (a : List Ltr) (l : List Int) : okFont (fontF a l) = true := growK_ok a l _
theorem ok_HF {f : Font} (h : okFont f = true) : HF f := by
  obtain ⟨h1, h2, h3, h4, h5, h6, _⟩ := (okFont_iff f).1 h
  refine ⟨⟨by omega, by omega, by omega, by omega⟩, by omega, fun k hk => ?_⟩
  have := (okKern_iff k).1 (List.all_eq_true.1 h6 k hk)
  omega
set_option maxRecDepth 100000
set_option maxHeartbeats 8000000
theorem font_loop (G : Globs) (a : List Ltr) (l : List Int) (ha : a.length ≤ 1000000) (hax : ∀ x ∈ a, 1 ≤ x.text.length ∧ x.text.length ≤ 4) (hl : okI l) (rs fo kn0 : Int) (m : Nat) (hm : (m : Int) < 7) (K : Exit → PState → Prop)
    (hK : ∀ (kn : Int) (ex : List PV), [kn, fo, rs].Nodup → ∀ σ, Wk σ ⟨fr 73 [(5, .ptr fo 0), (4, .ptr rs 0)], [(kn, ⟨68, true, 3, flatK (growK a l m) ++ ex⟩), (fo, ⟨27, false, 0, [pint .i64 (fontB l).space, pint .i64 (fontB l).digit, pint .i64 (fontB l).mark, pint .i64 (fontB l).bold, .row kn 3 (growK a l m).length]⟩), (rs, ⟨27, false, 0, [pint .i64 0, pint .i64 0, pint .i64 0, pint .i64 0, pnil]⟩)]⟩ → K (.exit 0) σ)
    (h0 : [kn0, fo, rs].Nodup) :
    W Tryd.prog G [] (nav (Tryd.f11.body.getD .skip) [1, 1, 1, 1, 0, 1, 0]) ⟨fr 73 [(7, pn 0), (6, pn m), (5, .ptr fo 0), (4, .ptr rs 0), (1, wP l), (0, ltsP a)], [(kn0, ⟨68, true, 3, []⟩), (fo, ⟨27, false, 0, [pint .i64 (fontB l).space, pint .i64 (fontB l).digit, pint .i64 (fontB l).mark, pint .i64 (fontB l).bold, .row kn0 3 0]⟩), (rs, ⟨27, false, 0, [pint .i64 0, pint .i64 0, pint .i64 0, pint .i64 0, pnil]⟩)]⟩ K := by
  simp only [Tryd.f11, nav, Option.getD_some]
  refine W_loop_k (fun z τ => ∃ (i : Nat) (kn : Int) (ex : List PV), i ≤ m ∧ z = m - i ∧ [kn, fo, rs].Nodup ∧ τ = ⟨fr 73 [(7, pn i), (6, pn m), (5, .ptr fo 0), (4, .ptr rs 0), (1, wP l), (0, ltsP a)], [(kn, ⟨68, true, 3, flatK (growK a l i) ++ ex⟩), (fo, ⟨27, false, 0, [pint .i64 (fontB l).space, pint .i64 (fontB l).digit, pint .i64 (fontB l).mark, pint .i64 (fontB l).bold, .row kn 3 (growK a l i).length]⟩), (rs, ⟨27, false, 0, [pint .i64 0, pint .i64 0, pint .i64 0, pint .i64 0, pnil]⟩)]⟩) m
    ⟨fr 73 [(7, pn 0), (6, pn m), (5, .ptr fo 0), (4, .ptr rs 0), (1, wP l), (0, ltsP a)], [(kn0, ⟨68, true, 3, []⟩), (fo, ⟨27, false, 0, [pint .i64 (fontB l).space, pint .i64 (fontB l).digit, pint .i64 (fontB l).mark, pint .i64 (fontB l).bold, .row kn0 3 0]⟩), (rs, ⟨27, false, 0, [pint .i64 0, pint .i64 0, pint .i64 0, pint .i64 0, pnil]⟩)]⟩ (by
    refine Wk_fr (by simp only [wkb, Nat.reduceEqDiff, Nat.reduceLT, ↓reduceIte, pn]) ?_
    exact Sub_refl h0) ⟨0, kn0, [], by omega, by omega, h0, rfl⟩ ?_
  rintro z τ ⟨i, kn, ex, hi, rfl, hnn, rfl⟩ lp hlp
  have hnm := hnn
  simp only [List.nodup_cons, dis_cons, dis_nil, List.nodup_nil, and_true] at hnm
  by_cases him : i < m
  · refine W_x (Wx.cut (k := (growK a l i).length * 3)) ?_
    have hgl := growK_len a l i
    rw [List.take_left' (flatK_len _)]
    have d1 := at_c G l hl (3 * i + 6) 1000 (by omega) (by omega)
    have d2 := at_c G l hl (3 * i + 7) 1000 (by omega) (by omega)
    have d3 := at_c G l hl (3 * i + 8) 14 (by omega) (by omega)
    have b1 := atF_bound l (3 * i + 6) (most := 1000) (by omega)
    have b2 := atF_bound l (3 * i + 7) (most := 1000) (by omega)
    have b3 := atF_bound l (3 * i + 8) (most := 14) (by omega)
    have hki : kernI a l i = ⟨chrF a (atF l (3 * i + 6) 1000).toNat, chrF a (atF l (3 * i + 7) 1000).toNat, 1 + atF l (3 * i + 8) 14⟩ := rfl
    obtain ⟨y1, hy1⟩ : ∃ y : Nat, atF l (3 * i + 6) 1000 = y := ⟨(atF l (3 * i + 6) 1000).toNat, by omega⟩
    obtain ⟨y2, hy2⟩ : ∃ y : Nat, atF l (3 * i + 7) 1000 = y := ⟨(atF l (3 * i + 7) 1000).toNat, by omega⟩
    rw [hy1] at d1 b1 hki
    rw [hy2] at d2 b2 hki
    generalize atF l (3 * i + 8) 14 = y3 at *
    simp only [pn, Int.natCast_add, Int.natCast_mul, Int.cast_ofNat_Int] at d1 d2 d3
    have e1 := character_c G a y1 ha (by omega)
    have e2 := character_c G a y2 ha (by omega)
    have l1 := chrF_len hax y1
    have l2 := chrF_len hax y2
    rw [show ((y1 : Int)).toNat = y1 from rfl, show ((y2 : Int)).toNat = y2 from rfl] at hki
    generalize chrF a y1 = t1 at *
    generalize chrF a y2 = t2 at *
    have hgr : growK a l (i + 1) = if okFont { fontB l with kerns := growK a l i ++ [kernI a l i] } then growK a l i ++ [kernI a l i] else growK a l i := rfl
    have hHF : HF { fontB l with kerns := growK a l i ++ [kernI a l i] } := by
      obtain ⟨q1, q2, q3⟩ := ok_HF (growK_ok a l i)
      refine ⟨q1, by simp only [List.length_append, List.length_singleton]; omega, fun k hk => ?_⟩
      rcases List.mem_append.1 hk with h | h
      · exact q3 k h
      · simp only [List.mem_singleton] at h
        subst h
        rw [hki]
        simp only
        omega
    have hv := rfvalid_c G _ hHF
    rw [hki] at hgr hv
    generalize okFont { fontB l with kerns := growK a l i ++ [⟨t1, t2, 1 + y3⟩] } = vv at *
    have hcc : ∀ n : Int, PCalls Tryd.prog G 17 (List.map (frz n (flatK (growK a l i) ++ [pstr t1, pstr t2, pint .i64 (1 + y3)])) [.agg [pint .i64 (fontB l).space, pint .i64 (fontB l).digit, pint .i64 (fontB l).mark, pint .i64 (fontB l).bold, .row n 3 ((growK a l i).length + 1)]]) [] (fun res H => res = pbool vv ∧ H = []) := fun n => by
      have h1 := frz_fRow { fontB l with kerns := growK a l i ++ [⟨t1, t2, 1 + y3⟩] } n
      simp only [flatK_snoc, fRow, List.length_append, List.length_singleton] at h1
      rw [List.map_cons, List.map_nil, h1]
      exact hv
    have hfl := flatK_len (growK a l i)
    generalize growK a l i = ks at *
    obtain ⟨nsp, ndi, nma, nbo⟩ := fontB_num l
    generalize (fontB l).space = sp at *
    generalize (fontB l).digit = di at *
    generalize (fontB l).mark = ma at *
    generalize (fontB l).bold = bo at *
    repeat' (first
    | (with_reducible apply W_seq_k; intro nx hnx)
    | (with_reducible first | apply W_block | apply W_scope)
    | (with_reducible refine W_prune 499 ?_; simp only [prb, Nat.reducePow, Nat.reduceDiv, Nat.reduceMod, Nat.reduceBEq]; with_reducible apply W_region_l)
    | ((first | (with_reducible apply WL_op; intro nx hnx) | with_reducible refine Ev_out ?_ | (with_reducible refine pfresh_k hnm fun nm hnm => ?_; (try simp only [fmb] at hnm)) | (with_reducible refine pborn_mu hnm fun nm hnm => ?_; (try simp only [fmb] at hnm))); try (simp (maxSteps := 2000000) (disch := omega) only [evb, evd, eve, constPV, seqK, blockK, scopeK, pbound, pelems, PV.mem?, PV.one, PV.cells, peqs, peq1, pkeys, pkeyt, List.set, Value.cells, ↓popG_eq, ↓pop.eq_1, ↓List.getElem?_map, ↓List.getElem?_cons_zero, ↓List.getElem?_cons_succ, Value.oneCell', Nat.reduceAdd, Nat.reduceMul, Nat.reduceSub, Nat.reduceLeDiff, Nat.reduceEqDiff, ↓reduceIte, ne_eq, reduceCtorEq, forall_const, exists_and_left, exists_eq_left', eq_self, Nat.reduceLT, Int.reduceLT, Int.reduceLE, Int.reduceToNat, Int.reduceAdd, Int.reduceSub, Int.reduceNeg, hnm, Tryd.tf0, Tryd.tf1, Tryd.tf3, Tryd.tf4, Tryd.tf9, Tryd.tf22, Tryd.tf23, Tryd.tf25, Tryd.tf27, Tryd.tf60, Tryd.tf68, Tryd.call17, Tryd.call36, Tryd.call38, hfl]); repeat (refine And.intro (by omega) ?_))
    | ((with_reducible first | apply WL_nil | apply W_label | apply W_skip | apply W_exit | apply W_ret); try simp only [seqK, blockK, scopeK, ↓reduceIte, Nat.reduceEqDiff])
    | (with_reducible apply W_cond_k; intro _ _ ea eb; (simp only [condK, cob, opnd, constPV, Nat.reduceEqDiff, Nat.reduceLT, ↓reduceIte, hcb, reduceCtorEq, forall_const, ne_eq]); subst ea eb; first | (refine ⟨fun hc => ?_, fun hc => ?_⟩ <;> first | (exfalso; omega) | (exfalso; exact hc trivial) | skip) | skip)
    | (with_reducible apply hnx; clear hnx nx)
    | (with_reducible refine And.intro (by omega) ?_)
    | (with_reducible refine And.intro ?_ ?_)
    | (with_reducible refine pcall_k (d1) ?_; rintro _ _ ⟨rfl, rfl⟩ -; refine Ev_in ?_)
    | (with_reducible refine pcall_k (d2) ?_; rintro _ _ ⟨rfl, rfl⟩ -; refine Ev_in ?_)
    | (with_reducible refine pcall_k (d3) ?_; rintro _ _ ⟨rfl, rfl⟩ -; refine Ev_in ?_)
    | (with_reducible refine pcall_k (e1) ?_; rintro _ _ ⟨rfl, rfl⟩ -; refine Ev_in ?_)
    | (with_reducible refine pcall_k (e2) ?_; rintro _ _ ⟨rfl, rfl⟩ -; refine Ev_in ?_)
    | (refine pcall_lendA nm ⟨68, true, 3, flatK ks ++ [pstr t1, pstr t2, pint .i64 (1 + y3)]⟩ (by simp only [look, hnm, ↓reduceIte]) (hcc nm) ?_; rintro _ _ ⟨rfl, rfl⟩; refine ⟨rfl, .val _, ?_⟩; refine Ev_in ?_)
    | (clear hnx nx; with_reducible apply hnx; clear hnx nx)
    | (clear hnx nx; clear hnx nx; with_reducible apply hnx; clear hnx nx))
    all_goals first | exact absurd trivial hc | contradiction | exact fun h => False.elim h | (exfalso; omega) | (exfalso; have hc := of_decide_eq_false hc; omega) | (exfalso; simp only [Bool.not_false, Bool.not_true, decide_eq_true_eq, decide_eq_false_iff_not] at *; omega) | skip
    · rw [hc] at hgr
      refine hlp _ (m - (i + 1)) ⟨fr 73 [(7, pn (i + 1)), (6, pn m), (5, .ptr fo 0), (4, .ptr rs 0), (1, wP l), (0, ltsP a)], [(nm, ⟨68, true, 3, flatK (growK a l (i + 1)) ++ [pstr t1, pstr t2, pint .i64 (1 + y3)]⟩), (fo, ⟨27, false, 0, [pint .i64 sp, pint .i64 di, pint .i64 ma, pint .i64 bo, .row nm 3 (growK a l (i + 1)).length]⟩), (rs, ⟨27, false, 0, [pint .i64 0, pint .i64 0, pint .i64 0, pint .i64 0, pnil]⟩)]⟩ (by omega) ?_ ⟨i + 1, nm, _, by omega, rfl, by simp [hnm], rfl⟩
      rw [hgr, if_neg (by simp)]
      refine Wk_fr (by simp only [wkb, Nat.reduceEqDiff, Nat.reduceLT, ↓reduceIte, pn]) ?_
      exact ⟨by simp, by simp [names, hnm]⟩
    · rw [hc] at hgr
      refine hlp _ (m - (i + 1)) ⟨fr 73 [(7, pn (i + 1)), (6, pn m), (5, .ptr fo 0), (4, .ptr rs 0), (1, wP l), (0, ltsP a)], [(nm, ⟨68, true, 3, flatK (growK a l (i + 1)) ++ []⟩), (fo, ⟨27, false, 0, [pint .i64 sp, pint .i64 di, pint .i64 ma, pint .i64 bo, .row nm 3 (growK a l (i + 1)).length]⟩), (rs, ⟨27, false, 0, [pint .i64 0, pint .i64 0, pint .i64 0, pint .i64 0, pnil]⟩)]⟩ (by omega) ?_ ⟨i + 1, nm, _, by omega, rfl, by simp [hnm], rfl⟩
      rw [hgr, if_pos rfl, flatK_snoc, List.append_nil]
      refine Wk_fr (by simp only [wkb, Nat.reduceEqDiff, Nat.reduceLT, ↓reduceIte, pn]) ?_
      exact ⟨by simp, by simp [names, hnm]⟩
  · have hi2 : i = m := by omega
    subst hi2
    repeat' (first
    | (with_reducible apply W_seq_k; intro nx hnx)
    | (with_reducible first | apply W_block | apply W_scope)
    | (with_reducible refine W_prune 499 ?_; simp only [prb, Nat.reducePow, Nat.reduceDiv, Nat.reduceMod, Nat.reduceBEq]; with_reducible apply W_region_l)
    | ((first | (with_reducible apply WL_op; intro nx hnx) | with_reducible refine Ev_out ?_ | (with_reducible refine pfresh_k hnm fun nm hnm => ?_; (try simp only [fmb] at hnm)) | (with_reducible refine pborn_mu hnm fun nm hnm => ?_; (try simp only [fmb] at hnm))); try (simp (maxSteps := 2000000) (disch := omega) only [evb, evd, eve, constPV, seqK, blockK, scopeK, pbound, pelems, PV.mem?, PV.one, PV.cells, peqs, peq1, pkeys, pkeyt, List.set, Value.cells, ↓popG_eq, ↓pop.eq_1, ↓List.getElem?_map, ↓List.getElem?_cons_zero, ↓List.getElem?_cons_succ, Value.oneCell', Nat.reduceAdd, Nat.reduceMul, Nat.reduceSub, Nat.reduceLeDiff, Nat.reduceEqDiff, ↓reduceIte, ne_eq, reduceCtorEq, forall_const, exists_and_left, exists_eq_left', eq_self, Nat.reduceLT, Int.reduceLT, Int.reduceLE, Int.reduceToNat, Int.reduceAdd, Int.reduceSub, Int.reduceNeg, hnm, Tryd.tf0, Tryd.tf1, Tryd.tf3, Tryd.tf4, Tryd.tf9, Tryd.tf22, Tryd.tf23, Tryd.tf25, Tryd.tf27, Tryd.tf60, Tryd.tf68, Tryd.call17, Tryd.call36, Tryd.call38]); repeat (refine And.intro (by omega) ?_))
    | ((with_reducible first | apply WL_nil | apply W_label | apply W_skip | apply W_exit | apply W_ret); try simp only [seqK, blockK, scopeK, ↓reduceIte, Nat.reduceEqDiff])
    | (with_reducible apply W_cond_k; intro _ _ ea eb; (simp only [condK, cob, opnd, constPV, Nat.reduceEqDiff, Nat.reduceLT, ↓reduceIte, hcb, reduceCtorEq, forall_const, ne_eq]); subst ea eb; first | (refine ⟨fun hc => ?_, fun hc => ?_⟩ <;> first | (exfalso; omega) | (exfalso; exact hc trivial) | skip) | skip)
    | (with_reducible apply hnx; clear hnx nx)
    | (with_reducible refine And.intro (by omega) ?_)
    | (with_reducible refine And.intro ?_ ?_)
    | (clear hnx nx; with_reducible apply hnx; clear hnx nx)
    | (clear hnx nx; clear hnx nx; with_reducible apply hnx; clear hnx nx))
    all_goals first | exact absurd trivial hc | contradiction | exact fun h => False.elim h | (exfalso; omega) | (exfalso; have hc := of_decide_eq_false hc; omega) | (exfalso; simp only [Bool.not_false, Bool.not_true, decide_eq_true_eq, decide_eq_false_iff_not] at *; omega) | skip
    refine hK kn ex hnn _ ?_
    refine Wk_fr (by simp only [wkb, Nat.reduceEqDiff, Nat.reduceLT, ↓reduceIte, pn]) ?_
    exact Sub_refl hnn
theorem font_r (G : Globs) (a : List Ltr) (l : List Int) (ha : a.length ≤ 1000000) (hax : ∀ x ∈ a, 1 ≤ x.text.length ∧ x.text.length ≤ 4) (hl : okI l) :
    PCalls Tryd.prog G 11 [ltsP a, wP l] [] (fun res H => ∃ n : Int, res = fRow (fontF a l) n ∧ H = [(n, ⟨68, true, 3, flatK (fontF a l).kerns⟩)]) := by
  have d0 := at_c G l hl 0 12 (by omega) (by omega)
  have d1 := at_c G l hl 1 12 (by omega) (by omega)
  have d2 := at_c G l hl 2 9 (by omega) (by omega)
  have d3 := at_c G l hl 3 60 (by omega) (by omega)
  have d4 := at_c G l hl 4 9 (by omega) (by omega)
  have d5 := at_c G l hl 5 7 (by omega) (by omega)
  have d0 : PCalls Tryd.prog G 36 [wP l, .val (.int .i64 0), .val (.int .i64 12)] [] _ := d0
  have d1 : PCalls Tryd.prog G 36 [wP l, .val (.int .i64 1), .val (.int .i64 12)] [] _ := d1
  have d2 : PCalls Tryd.prog G 36 [wP l, .val (.int .i64 2), .val (.int .i64 9)] [] _ := d2
  have d3 : PCalls Tryd.prog G 36 [wP l, .val (.int .i64 3), .val (.int .i64 60)] [] _ := d3
  have d4 : PCalls Tryd.prog G 36 [wP l, .val (.int .i64 4), .val (.int .i64 9)] [] _ := d4
  have d5 : PCalls Tryd.prog G 36 [wP l, .val (.int .i64 5), .val (.int .i64 7)] [] _ := d5
  have b0 := atF_bound l 0 (most := 12) (by omega)
  have b1 := atF_bound l 1 (most := 12) (by omega)
  have b2 := atF_bound l 2 (most := 9) (by omega)
  have b3 := atF_bound l 3 (most := 60) (by omega)
  have b4 := atF_bound l 4 (most := 9) (by omega)
  have b5 := atF_bound l 5 (most := 7) (by omega)
  unfold fontF
  have hB : fontB l = if atF l 4 9 = 0 then ⟨1000, 1 + atF l 1 12, 1 + atF l 2 9, 50, []⟩ else ⟨1 + atF l 0 12, 1 + atF l 1 12, 1 + atF l 2 9, 90 + atF l 3 60, []⟩ := rfl
  obtain ⟨m, hm⟩ : ∃ m : Nat, atF l 5 7 = m := ⟨(atF l 5 7).toNat, by omega⟩
  rw [hm] at d5 b5 ⊢
  rw [show ((m : Int)).toNat = m from rfl]
  generalize atF l 0 12 = x0 at *
  generalize atF l 1 12 = x1 at *
  generalize atF l 2 9 = x2 at *
  generalize atF l 3 60 = x3 at *
  generalize atF l 4 9 = x4 at *
  (refine PCalls_f Tryd.func11 rfl Tryd.ntmps11 Tryd.results11 (by simp) fun fin hfin => ?_; have hnm : True := trivial; simp (maxSteps := 2000000) (disch := omega) only [evb, evd, eve, constPV, seqK, blockK, scopeK, pbound, pelems, PV.mem?, PV.one, PV.cells, peqs, peq1, pkeys, pkeyt, List.set, Value.cells, ↓popG_eq, ↓pop.eq_1, ↓List.getElem?_map, ↓List.getElem?_cons_zero, ↓List.getElem?_cons_succ, Value.oneCell', Nat.reduceAdd, Nat.reduceMul, Nat.reduceSub, Nat.reduceLeDiff, Nat.reduceEqDiff, ↓reduceIte, ne_eq, reduceCtorEq, forall_const, exists_and_left, exists_eq_left', eq_self, Nat.reduceLT, Int.reduceLT, Int.reduceLE, Int.reduceToNat, Int.reduceAdd, Int.reduceSub, Int.reduceNeg, hnm, Tryd.tf0, Tryd.tf1, Tryd.tf3, Tryd.tf4, Tryd.tf9, Tryd.tf22, Tryd.tf23, Tryd.tf25, Tryd.tf27, Tryd.tf60, Tryd.tf68, Tryd.call17, Tryd.call36, Tryd.call38])
  repeat' (first
    | (with_reducible apply W_seq_k; intro nx hnx)
    | (with_reducible first | apply W_block | apply W_scope)
    | (with_reducible refine W_prune 499 ?_; simp only [prb, Nat.reducePow, Nat.reduceDiv, Nat.reduceMod, Nat.reduceBEq]; with_reducible apply W_region_l)
    | ((first | (with_reducible apply WL_op; intro nx hnx) | with_reducible refine Ev_out ?_ | (with_reducible refine pfresh_k hnm fun nm hnm => ?_; (try simp only [fmb] at hnm)) | (with_reducible refine pborn_mu hnm fun nm hnm => ?_; (try simp only [fmb] at hnm))); try (simp (maxSteps := 2000000) (disch := omega) only [evb, evd, eve, constPV, seqK, blockK, scopeK, pbound, pelems, PV.mem?, PV.one, PV.cells, peqs, peq1, pkeys, pkeyt, List.set, Value.cells, ↓popG_eq, ↓pop.eq_1, ↓List.getElem?_map, ↓List.getElem?_cons_zero, ↓List.getElem?_cons_succ, Value.oneCell', Nat.reduceAdd, Nat.reduceMul, Nat.reduceSub, Nat.reduceLeDiff, Nat.reduceEqDiff, ↓reduceIte, ne_eq, reduceCtorEq, forall_const, exists_and_left, exists_eq_left', eq_self, Nat.reduceLT, Int.reduceLT, Int.reduceLE, Int.reduceToNat, Int.reduceAdd, Int.reduceSub, Int.reduceNeg, hnm, Tryd.tf0, Tryd.tf1, Tryd.tf3, Tryd.tf4, Tryd.tf9, Tryd.tf22, Tryd.tf23, Tryd.tf25, Tryd.tf27, Tryd.tf60, Tryd.tf68, Tryd.call17, Tryd.call36, Tryd.call38]); repeat (refine And.intro (by omega) ?_))
    | ((with_reducible first | apply WL_nil | apply W_label | apply W_skip | apply W_exit | apply W_ret); try simp only [seqK, blockK, scopeK, ↓reduceIte, Nat.reduceEqDiff])
    | (with_reducible apply W_cond_k; intro _ _ ea eb; (simp only [condK, cob, opnd, constPV, Nat.reduceEqDiff, Nat.reduceLT, ↓reduceIte, hcb, reduceCtorEq, forall_const, ne_eq]); subst ea eb; first | (refine ⟨fun hc => ?_, fun hc => ?_⟩ <;> first | (exfalso; omega) | (exfalso; exact hc trivial) | skip) | skip)
    | (with_reducible apply hnx; clear hnx nx)
    | (with_reducible refine And.intro (by omega) ?_)
    | (with_reducible refine And.intro ?_ ?_)
    | (with_reducible refine pcall_k (d0) ?_; rintro _ _ ⟨rfl, rfl⟩ -; refine Ev_in ?_)
    | (with_reducible refine pcall_k (d1) ?_; rintro _ _ ⟨rfl, rfl⟩ -; refine Ev_in ?_)
    | (with_reducible refine pcall_k (d2) ?_; rintro _ _ ⟨rfl, rfl⟩ -; refine Ev_in ?_)
    | (with_reducible refine pcall_k (d3) ?_; rintro _ _ ⟨rfl, rfl⟩ -; refine Ev_in ?_)
    | (with_reducible refine pcall_k (d4) ?_; rintro _ _ ⟨rfl, rfl⟩ -; refine Ev_in ?_)
    | (with_reducible refine pcall_k (d5) ?_; rintro _ _ ⟨rfl, rfl⟩ -; refine Ev_in ?_)
    | (clear hnx nx; with_reducible apply hnx; clear hnx nx)
    | (clear hnx nx; clear hnx nx; with_reducible apply hnx; clear hnx nx))
  all_goals first | exact absurd trivial hc | contradiction | exact fun h => False.elim h | (exfalso; omega) | (exfalso; have hc := of_decide_eq_false hc; omega) | (exfalso; simp only [Bool.not_false, Bool.not_true, decide_eq_true_eq, decide_eq_false_iff_not] at *; omega) | skip
  · rw [if_pos hc] at hB
    have hsp : (fontB l).space = 1000 := by rw [hB]
    have hdi : (fontB l).digit = 1 + x1 := by rw [hB]
    have hma : (fontB l).mark = 1 + x2 := by rw [hB]
    have hbo : (fontB l).bold = 50 := by rw [hB]
    rename_i rs hrs
    obtain ⟨fo, hfo⟩ : ∃ fo, fo = nm := ⟨_, rfl⟩
    rw [← hfo] at hnm ⊢
    clear hfo
    refine W_adopt_c fo 4 68 3 (o := ⟨27, false, 0, [pint .i64 (1000), pint .i64 (1 + x1), pint .i64 (1 + x2), pint .i64 (50), pnil]⟩) (by simp only [look, hnm, ↓reduceIte]) rfl fun kn hkn => ?_
    simp only [names, List.map_cons, List.map_nil, dis_cons, dis_nil, and_true] at hkn
    simp only [upd, hnm, hkn, ↓reduceIte, List.set_cons_succ, List.set_cons_zero]
    clear hrs
    have fl := fun K => font_loop G a l ha hax hl rs fo kn m b5.2 K
    simp only [Tryd.f11, nav, Option.getD_some, hsp, hdi, hma, hbo] at fl
    refine W_wk ?_ (fl _ (fun kn2 ex hnn σ hwk => ?_) (by simp [hnm, hkn]))
    · refine Wk_fr (by simp only [wkb, Nat.reduceEqDiff, Nat.reduceLT, ↓reduceIte, pn]) ?_
      exact ⟨by simp, by simp [names, hnm, hkn]⟩
    · refine hnx σ (W_wk hwk ?_)
      refine W_x (Wx.cut (k := (growK a l m).length * 3)) ?_
      rw [List.take_left' (flatK_len _)]
      clear hnm hkn
      have hnm := hnn
      simp only [List.nodup_cons, dis_cons, dis_nil, List.nodup_nil, and_true] at hnm
      repeat' (first
    | (with_reducible apply W_seq_k; intro nx hnx)
    | (with_reducible first | apply W_block | apply W_scope)
    | (with_reducible refine W_prune 499 ?_; simp only [prb, Nat.reducePow, Nat.reduceDiv, Nat.reduceMod, Nat.reduceBEq]; with_reducible apply W_region_l)
    | ((first | (with_reducible apply WL_op; intro nx hnx) | with_reducible refine Ev_out ?_ | (with_reducible refine pfresh_k hnm fun nm hnm => ?_; (try simp only [fmb] at hnm)) | (with_reducible refine pborn_mu hnm fun nm hnm => ?_; (try simp only [fmb] at hnm))); try (simp (maxSteps := 2000000) (disch := omega) only [evb, evd, eve, constPV, seqK, blockK, scopeK, pbound, pelems, PV.mem?, PV.one, PV.cells, peqs, peq1, pkeys, pkeyt, List.set, Value.cells, ↓popG_eq, ↓pop.eq_1, ↓List.getElem?_map, ↓List.getElem?_cons_zero, ↓List.getElem?_cons_succ, Value.oneCell', Nat.reduceAdd, Nat.reduceMul, Nat.reduceSub, Nat.reduceLeDiff, Nat.reduceEqDiff, ↓reduceIte, ne_eq, reduceCtorEq, forall_const, exists_and_left, exists_eq_left', eq_self, Nat.reduceLT, Int.reduceLT, Int.reduceLE, Int.reduceToNat, Int.reduceAdd, Int.reduceSub, Int.reduceNeg, hnm, Tryd.tf0, Tryd.tf1, Tryd.tf3, Tryd.tf4, Tryd.tf9, Tryd.tf22, Tryd.tf23, Tryd.tf25, Tryd.tf27, Tryd.tf60, Tryd.tf68, Tryd.call17, Tryd.call36, Tryd.call38]); repeat (refine And.intro (by omega) ?_))
    | ((with_reducible first | apply WL_nil | apply W_label | apply W_skip | apply W_exit | apply W_ret); try simp only [seqK, blockK, scopeK, ↓reduceIte, Nat.reduceEqDiff])
    | (with_reducible apply W_cond_k; intro _ _ ea eb; (simp only [condK, cob, opnd, constPV, Nat.reduceEqDiff, Nat.reduceLT, ↓reduceIte, hcb, reduceCtorEq, forall_const, ne_eq]); subst ea eb; first | (refine ⟨fun hc => ?_, fun hc => ?_⟩ <;> first | (exfalso; omega) | (exfalso; exact hc trivial) | skip) | skip)
    | (with_reducible apply hnx; clear hnx nx)
    | (with_reducible refine And.intro (by omega) ?_)
    | (with_reducible refine And.intro ?_ ?_)
    | (clear hnx nx; with_reducible apply hnx; clear hnx nx)
    | (clear hnx nx; clear hnx nx; with_reducible apply hnx; clear hnx nx))
      all_goals first | exact absurd trivial hc | contradiction | exact fun h => False.elim h | (exfalso; omega) | (exfalso; have hc := of_decide_eq_false hc; omega) | (exfalso; simp only [Bool.not_false, Bool.not_true, decide_eq_true_eq, decide_eq_false_iff_not] at *; omega) | skip
      all_goals
        refine hfin _ _ (Fin_font (H := [(kn2, ⟨68, true, 3, flatK (growK a l m)⟩)]) (by (try simp only [fr_getD_cons, fr_getD_nil, Nat.reduceEqDiff, Nat.reduceLT, ↓reduceIte]); first | done | rfl) (by (try simp only [look, hnm, ↓reduceIte]); first | done | rfl) ⟨by simp, by simp [names]⟩ ⟨kn2, by simp only [fRow, hsp, hdi, hma, hbo], rfl⟩)
  · rw [if_neg hc] at hB
    have hsp : (fontB l).space = 1 + x0 := by rw [hB]
    have hdi : (fontB l).digit = 1 + x1 := by rw [hB]
    have hma : (fontB l).mark = 1 + x2 := by rw [hB]
    have hbo : (fontB l).bold = 90 + x3 := by rw [hB]
    rename_i rs hrs
    obtain ⟨fo, hfo⟩ : ∃ fo, fo = nm := ⟨_, rfl⟩
    rw [← hfo] at hnm ⊢
    clear hfo
    refine W_adopt_c fo 4 68 3 (o := ⟨27, false, 0, [pint .i64 (1 + x0), pint .i64 (1 + x1), pint .i64 (1 + x2), pint .i64 (90 + x3), pnil]⟩) (by simp only [look, hnm, ↓reduceIte]) rfl fun kn hkn => ?_
    simp only [names, List.map_cons, List.map_nil, dis_cons, dis_nil, and_true] at hkn
    simp only [upd, hnm, hkn, ↓reduceIte, List.set_cons_succ, List.set_cons_zero]
    clear hrs
    have fl := fun K => font_loop G a l ha hax hl rs fo kn m b5.2 K
    simp only [Tryd.f11, nav, Option.getD_some, hsp, hdi, hma, hbo] at fl
    refine W_wk ?_ (fl _ (fun kn2 ex hnn σ hwk => ?_) (by simp [hnm, hkn]))
    · refine Wk_fr (by simp only [wkb, Nat.reduceEqDiff, Nat.reduceLT, ↓reduceIte, pn]) ?_
      exact ⟨by simp, by simp [names, hnm, hkn]⟩
    · refine hnx σ (W_wk hwk ?_)
      refine W_x (Wx.cut (k := (growK a l m).length * 3)) ?_
      rw [List.take_left' (flatK_len _)]
      clear hnm hkn
      have hnm := hnn
      simp only [List.nodup_cons, dis_cons, dis_nil, List.nodup_nil, and_true] at hnm
      repeat' (first
    | (with_reducible apply W_seq_k; intro nx hnx)
    | (with_reducible first | apply W_block | apply W_scope)
    | (with_reducible refine W_prune 499 ?_; simp only [prb, Nat.reducePow, Nat.reduceDiv, Nat.reduceMod, Nat.reduceBEq]; with_reducible apply W_region_l)
    | ((first | (with_reducible apply WL_op; intro nx hnx) | with_reducible refine Ev_out ?_ | (with_reducible refine pfresh_k hnm fun nm hnm => ?_; (try simp only [fmb] at hnm)) | (with_reducible refine pborn_mu hnm fun nm hnm => ?_; (try simp only [fmb] at hnm))); try (simp (maxSteps := 2000000) (disch := omega) only [evb, evd, eve, constPV, seqK, blockK, scopeK, pbound, pelems, PV.mem?, PV.one, PV.cells, peqs, peq1, pkeys, pkeyt, List.set, Value.cells, ↓popG_eq, ↓pop.eq_1, ↓List.getElem?_map, ↓List.getElem?_cons_zero, ↓List.getElem?_cons_succ, Value.oneCell', Nat.reduceAdd, Nat.reduceMul, Nat.reduceSub, Nat.reduceLeDiff, Nat.reduceEqDiff, ↓reduceIte, ne_eq, reduceCtorEq, forall_const, exists_and_left, exists_eq_left', eq_self, Nat.reduceLT, Int.reduceLT, Int.reduceLE, Int.reduceToNat, Int.reduceAdd, Int.reduceSub, Int.reduceNeg, hnm, Tryd.tf0, Tryd.tf1, Tryd.tf3, Tryd.tf4, Tryd.tf9, Tryd.tf22, Tryd.tf23, Tryd.tf25, Tryd.tf27, Tryd.tf60, Tryd.tf68, Tryd.call17, Tryd.call36, Tryd.call38]); repeat (refine And.intro (by omega) ?_))
    | ((with_reducible first | apply WL_nil | apply W_label | apply W_skip | apply W_exit | apply W_ret); try simp only [seqK, blockK, scopeK, ↓reduceIte, Nat.reduceEqDiff])
    | (with_reducible apply W_cond_k; intro _ _ ea eb; (simp only [condK, cob, opnd, constPV, Nat.reduceEqDiff, Nat.reduceLT, ↓reduceIte, hcb, reduceCtorEq, forall_const, ne_eq]); subst ea eb; first | (refine ⟨fun hc => ?_, fun hc => ?_⟩ <;> first | (exfalso; omega) | (exfalso; exact hc trivial) | skip) | skip)
    | (with_reducible apply hnx; clear hnx nx)
    | (with_reducible refine And.intro (by omega) ?_)
    | (with_reducible refine And.intro ?_ ?_)
    | (clear hnx nx; with_reducible apply hnx; clear hnx nx)
    | (clear hnx nx; clear hnx nx; with_reducible apply hnx; clear hnx nx))
      all_goals first | exact absurd trivial hc | contradiction | exact fun h => False.elim h | (exfalso; omega) | (exfalso; have hc := of_decide_eq_false hc; omega) | (exfalso; simp only [Bool.not_false, Bool.not_true, decide_eq_true_eq, decide_eq_false_iff_not] at *; omega) | skip
      all_goals
        refine hfin _ _ (Fin_font (H := [(kn2, ⟨68, true, 3, flatK (growK a l m)⟩)]) (by (try simp only [fr_getD_cons, fr_getD_nil, Nat.reduceEqDiff, Nat.reduceLT, ↓reduceIte]); first | done | rfl) (by (try simp only [look, hnm, ↓reduceIte]); first | done | rfl) ⟨by simp, by simp [names]⟩ ⟨kn2, by simp only [fRow, hsp, hdi, hma, hbo], rfl⟩)
end Go.PM

namespace Go.PM
open Go.Proofs
attribute [local irreducible] W PCalls pcall pcallI WL
theorem font_f (G : Globs) (a : List Ltr) (l : List Int) (ha : a.length ≤ 1000000) (hax : ∀ x ∈ a, 1 ≤ x.text.length ∧ x.text.length ≤ 4) (hl : okI l) :
    PCalls Tryd.prog G 11 [ltsP a, wP l] [] (fun res H => res = foP (fontF a l) ∧ H = []) :=
  PCalls.px (font_r G a l ha hax hl) fun res H ⟨n, h1, h2⟩ => ⟨_, _, by rw [h1, h2]; exact Px_font _, rfl, rfl⟩
def zeroK : Kern := ⟨[], [], 0⟩
/-- A font that is spoilt in the way x. -/
def spoF (f : Font) (x : Int) : Font :=
  if x = 0 then { f with space := 0 } else if x = 1 then { f with digit := 1001 } else if x = 2 then { f with mark := -1 } else if x = 3 then { f with bold := 49 } else if x = 4 then { f with bold := 401 }
  else if x = 5 then { f with kerns := List.replicate 65 zeroK } else if x = 6 then { f with kerns := f.kerns ++ [⟨[], [97], 1⟩] } else if x = 7 then { f with kerns := f.kerns ++ [⟨[97], [97, 98, 99, 100, 101], 1⟩] }
  else if x = 8 then { f with kerns := f.kerns ++ [⟨[126], [126], 0⟩] } else if x = 9 then { f with kerns := f.kerns ++ [⟨[126], [126], 1001⟩] } else if x = 10 then { f with kerns := f.kerns ++ [⟨[126], [126], 1⟩, ⟨[126], [126], 2⟩] }
  else { f with mark := 1001 }
theorem flat_ks : ∀ ks : List Kern, flat (ks.map kP) = flatK ks
  | [] => rfl
  | k :: ks => by
    rw [List.map_cons, flatK_cons, ← flat_ks ks]
    rfl
set_option maxRecDepth 100000
set_option maxHeartbeats 8000000
theorem spo_r (G : Globs) (f : Font) (how : Int) (hok : okFont f = true) (hh : i64 how) :
    PCalls Tryd.prog G 12 [foP f, pint .i64 how] [] (fun res H => ∃ n : Int, res = fRow (spoF f (arF how 12)) n ∧ H = [(n, ⟨68, true, 3, flatK (spoF f (arF how 12)).kerns⟩)]) := by
  have c1 := around_c G how 12 (by omega) hh (by omega)
  have b1 := arF_bound how (most := 12) (by omega)
  obtain ⟨_, _, _, _, hkl, _⟩ := (okFont_iff f).1 hok
  have c1 : PCalls Tryd.prog G 24 [pint .i64 how, .val (.int .i64 12)] [] _ := c1
  have hfk := flat_ks f.kerns
  have hfl := flatK_len f.kerns
  generalize arF how 12 = x at *
  obtain ⟨k, rfl⟩ : ∃ k : Nat, x = k := ⟨x.toNat, by omega⟩
  rcases (by omega : k = 0 ∨ k = 1 ∨ k = 2 ∨ k = 3 ∨ k = 4 ∨ k = 5 ∨ k = 6 ∨ k = 7 ∨ k = 8 ∨ k = 9 ∨ k = 10 ∨ k = 11) with rfl | rfl | rfl | rfl | rfl | rfl | rfl | rfl | rfl | rfl | rfl | rfl
  all_goals
    (refine PCalls_f Tryd.func12 rfl Tryd.ntmps12 Tryd.results12 (by simp) fun fin hfin => ?_; have hnm : True := trivial; simp (maxSteps := 2000000) (disch := omega) only [evb, evd, eve, constPV, seqK, blockK, scopeK, pbound, pelems, PV.mem?, PV.one, PV.cells, peqs, peq1, pkeys, pkeyt, List.set, Value.cells, ↓popG_eq, ↓pop.eq_1, ↓List.getElem?_map, ↓List.getElem?_cons_zero, ↓List.getElem?_cons_succ, Value.oneCell', Nat.reduceAdd, Nat.reduceMul, Nat.reduceSub, Nat.reduceLeDiff, Nat.reduceEqDiff, ↓reduceIte, ne_eq, reduceCtorEq, forall_const, exists_and_left, exists_eq_left', eq_self, Nat.reduceLT, Int.reduceLT, Int.reduceLE, Int.reduceToNat, Int.reduceAdd, Int.reduceSub, Int.reduceNeg, hnm, Tryd.tf0, Tryd.tf1, Tryd.tf2, Tryd.tf3, Tryd.tf4, Tryd.tf25, Tryd.tf27, Tryd.tf68, Tryd.call24])
    repeat' (first
    | (with_reducible apply W_seq_k; intro nx hnx)
    | (with_reducible first | apply W_block | apply W_scope)
    | (with_reducible refine W_prune 2071 ?_; simp only [prb, Nat.reducePow, Nat.reduceDiv, Nat.reduceMod, Nat.reduceBEq]; with_reducible apply W_region_l)
    | ((first | (with_reducible apply WL_op; intro nx hnx) | with_reducible refine Ev_out ?_ | (with_reducible refine pfresh_k hnm fun nm hnm => ?_; (try simp only [fmb] at hnm)) | (with_reducible refine pborn_mu hnm fun nm hnm => ?_; (try simp only [fmb] at hnm))); try (simp (maxSteps := 2000000) (disch := omega) only [evb, evd, eve, constPV, seqK, blockK, scopeK, pbound, pelems, PV.mem?, PV.one, PV.cells, peqs, peq1, pkeys, pkeyt, List.set, Value.cells, ↓popG_eq, ↓pop.eq_1, ↓List.getElem?_map, ↓List.getElem?_cons_zero, ↓List.getElem?_cons_succ, Value.oneCell', Nat.reduceAdd, Nat.reduceMul, Nat.reduceSub, Nat.reduceLeDiff, Nat.reduceEqDiff, ↓reduceIte, ne_eq, reduceCtorEq, forall_const, exists_and_left, exists_eq_left', eq_self, Nat.reduceLT, Int.reduceLT, Int.reduceLE, Int.reduceToNat, Int.reduceAdd, Int.reduceSub, Int.reduceNeg, hnm, Tryd.tf0, Tryd.tf1, Tryd.tf2, Tryd.tf3, Tryd.tf4, Tryd.tf25, Tryd.tf27, Tryd.tf68, Tryd.call24, hfk, hfl, List.length_map]); repeat (refine And.intro (by omega) ?_))
    | ((with_reducible first | apply WL_nil | apply W_label | apply W_skip | apply W_exit | apply W_ret); try simp only [seqK, blockK, scopeK, ↓reduceIte, Nat.reduceEqDiff])
    | (with_reducible apply W_cond_k; intro _ _ ea eb; (simp only [condK, cob, opnd, constPV, Nat.reduceEqDiff, Nat.reduceLT, ↓reduceIte, hcb, reduceCtorEq, forall_const, ne_eq]); subst ea eb; first | (refine ⟨fun hc => ?_, fun hc => ?_⟩ <;> first | (exfalso; omega) | (exfalso; exact hc trivial) | skip) | skip)
    | (with_reducible apply hnx; clear hnx nx)
    | (with_reducible refine And.intro (by omega) ?_)
    | (with_reducible refine And.intro ?_ ?_)
    | (with_reducible refine pcall_k (c1) ?_; rintro _ _ ⟨rfl, rfl⟩ -; refine Ev_in ?_)
    | (clear hnx nx; with_reducible apply hnx; clear hnx nx)
    | (clear hnx nx; clear hnx nx; with_reducible apply hnx; clear hnx nx))
    all_goals first | exact absurd trivial hc | contradiction | exact fun h => False.elim h | (exfalso; omega) | (exfalso; have hc := of_decide_eq_false hc; omega) | (exfalso; simp only [Bool.not_false, Bool.not_true, decide_eq_true_eq, decide_eq_false_iff_not] at *; omega) | skip
  all_goals
    refine hfin _ _ (Fin_font (H := [(nm, ⟨68, true, 3, flatK (spoF f _).kerns⟩)]) (by (try simp only [fr_getD_cons, fr_getD_nil, Nat.reduceEqDiff, Nat.reduceLT, ↓reduceIte]); first | done | rfl) (by (try simp only [look, hnm, ↓reduceIte]); first | done | rfl) ⟨?_, by simp [names]⟩ ⟨nm, ?_, rfl⟩)
    · simp [spoF, flatK, zeroK, List.replicate, mk]
    · simp [spoF, fRow]
theorem spo_f (G : Globs) (f : Font) (how : Int) (hok : okFont f = true) (hh : i64 how) :
    PCalls Tryd.prog G 12 [foP f, pint .i64 how] [] (fun res H => res = foP (spoF f (arF how 12)) ∧ H = []) :=
  PCalls.px (spo_r G f how hok hh) fun res H ⟨n, h1, h2⟩ => ⟨_, _, by rw [h1, h2]; exact Px_font _, rfl, rfl⟩
theorem spo_cases {P : Font → Prop} (f : Font) (x : Int) (h0 : 0 ≤ x ∧ x < 12) (c0 : P { f with space := 0 }) (c1 : P { f with digit := 1001 }) (c2 : P { f with mark := -1 }) (c3 : P { f with bold := 49 }) (c4 : P { f with bold := 401 })
    (c5 : P { f with kerns := List.replicate 65 zeroK }) (c6 : ∀ k : Kern, okKern k = false → k.left.length ≤ 5 → k.right.length ≤ 5 → 0 ≤ k.by_ → k.by_ ≤ 1001 → P { f with kerns := f.kerns ++ [k] })
    (c7 : P { f with kerns := f.kerns ++ [⟨[126], [126], 1⟩, ⟨[126], [126], 2⟩] }) (c8 : P { f with mark := 1001 }) : P (spoF f x) := by
  unfold spoF
  by_cases h0 : x = 0
  · rw [if_pos h0]
    exact c0
  rw [if_neg h0]
  by_cases h1 : x = 1
  · rw [if_pos h1]
    exact c1
  rw [if_neg h1]
  by_cases h2 : x = 2
  · rw [if_pos h2]
    exact c2
  rw [if_neg h2]
  by_cases h3 : x = 3
  · rw [if_pos h3]
    exact c3
  rw [if_neg h3]
  by_cases h4 : x = 4
  · rw [if_pos h4]
    exact c4
  rw [if_neg h4]
  by_cases h5 : x = 5
  · rw [if_pos h5]
    exact c5
  rw [if_neg h5]
  by_cases h6 : x = 6
  · rw [if_pos h6]
    refine c6 _ ?_ ?_ ?_ ?_ ?_ <;> decide
  rw [if_neg h6]
  by_cases h7 : x = 7
  · rw [if_pos h7]
    refine c6 _ ?_ ?_ ?_ ?_ ?_ <;> decide
  rw [if_neg h7]
  by_cases h8 : x = 8
  · rw [if_pos h8]
    refine c6 _ ?_ ?_ ?_ ?_ ?_ <;> decide
  rw [if_neg h8]
  by_cases h9 : x = 9
  · rw [if_pos h9]
    refine c6 _ ?_ ?_ ?_ ?_ ?_ <;> decide
  rw [if_neg h9]
  by_cases h10 : x = 10
  · rw [if_pos h10]
    exact c7
  rw [if_neg h10]
  exact c8
theorem spo_bad {f : Font} (hok : okFont f = true) (x : Int) (h0 : 0 ≤ x ∧ x < 12) : okFont (spoF f x) = false := by
  refine spo_cases (P := fun g => okFont g = false) f x h0 ?_ ?_ ?_ ?_ ?_ ?_ ?_ ?_ ?_
  case refine_7 =>
    intro k hk _ _ _ _
    rw [← Bool.not_eq_true, okFont_iff]
    rintro ⟨_, _, _, _, _, h6, _⟩
    have := List.all_eq_true.1 h6 k (by simp)
    rw [hk] at this
    cases this
  case refine_8 =>
    rw [← Bool.not_eq_true, okFont_iff]
    rintro ⟨_, _, _, _, _, _, h7⟩
    simp [pairs, List.nodup_append] at h7
  all_goals
    rw [← Bool.not_eq_true, okFont_iff]
    simp
theorem spo_HF {f : Font} (hok : okFont f = true) (x : Int) (h0 : 0 ≤ x ∧ x < 12) : HF (spoF f x) := by
  obtain ⟨q1, q2, q3⟩ := ok_HF hok
  have hkl := ((okFont_iff f).1 hok).2.2.2.2.1
  refine spo_cases (P := HF) f x h0 ?_ ?_ ?_ ?_ ?_ ?_ ?_ ?_ ?_
  case refine_6 =>
    refine ⟨q1, by simp, fun k hk => ?_⟩
    rw [List.eq_of_mem_replicate hk]
    decide
  case refine_7 =>
    intro k _ h1 h2 h3 h4
    refine ⟨q1, by simp only [List.length_append, List.length_singleton]; omega, fun y hy => ?_⟩
    rcases List.mem_append.1 hy with h | h
    · exact q3 y h
    · simp only [List.mem_singleton] at h
      subst h
      omega
  case refine_8 =>
    refine ⟨q1, by simp only [List.length_append, List.length_cons, List.length_nil]; omega, fun y hy => ?_⟩
    rcases List.mem_append.1 hy with h | h
    · exact q3 y h
    · simp only [List.mem_cons, List.not_mem_nil, or_false] at h
      rcases h with rfl | rfl <;> decide
  all_goals exact ⟨by simp only; omega, q2, q3⟩
end Go.PM

namespace Go.PM
open Go.Proofs
attribute [local irreducible] W PCalls pcall pcallI WL
def pieceS (a : List Ltr) (x : Nat) : List UInt8 := if x % 12 = 0 then [UInt8.ofNat (33 + x / 12 % 200)] else if x % 40 = 1 then [UInt8.ofNat (x / 40 % 40)] else chrF a (x / 12)
def strN (a : List Ltr) (l : List Int) (n : Nat) : List UInt8 := (List.range n).flatMap fun i => pieceS a (atF l (i + 1) 4000).toNat
def strF (a : List Ltr) (l : List Int) : List UInt8 := strN a l (atF l 0 14).toNat
theorem pieceS_len {a : List Ltr} (h : ∀ x ∈ a, 1 ≤ x.text.length ∧ x.text.length ≤ 4) (x : Nat) : (pieceS a x).length ≤ 4 := by
  unfold pieceS
  split
  · simp
  · split
    · simp
    · exact (chrF_len h _).2
theorem strN_step (a : List Ltr) (l : List Int) (n : Nat) : strN a l (n + 1) = strN a l n ++ pieceS a (atF l (n + 1) 4000).toNat := by
  unfold strN
  rw [List.range_succ, List.flatMap_append]
  simp
theorem strN_len {a : List Ltr} (h : ∀ x ∈ a, 1 ≤ x.text.length ∧ x.text.length ≤ 4) (l : List Int) : ∀ n, (strN a l n).length ≤ 4 * n
  | 0 => by simp [strN]
  | n + 1 => by
    have := strN_len h l n
    have := pieceS_len h (atF l (n + 1) 4000).toNat
    rw [strN_step, List.length_append]
    omega
theorem strF_len {a : List Ltr} (h : ∀ x ∈ a, 1 ≤ x.text.length ∧ x.text.length ≤ 4) (l : List Int) : (strF a l).length ≤ 52 := by
  have := strN_len h l (atF l 0 14).toNat
  have := atF_bound l 0 (most := 14) (by omega)
  unfold strF
  omega
set_option maxRecDepth 100000
set_option maxHeartbeats 8000000
theorem rstring_c (G : Globs) (a : List Ltr) (l : List Int) (ha : a.length ≤ 1000000) (hax : ∀ x ∈ a, 1 ≤ x.text.length ∧ x.text.length ≤ 4) (hl : okI l) :
    PCalls Tryd.prog G 14 [ltsP a, wP l, .val (.int .i64 0)] [] (fun res H => res = pstr (strF a l) ∧ H = []) := by
  have d0 := at_c G l hl 0 14 (by omega) (by omega)
  have d0 : PCalls Tryd.prog G 36 [wP l, .val (.int .i64 0), .val (.int .i64 14)] [] _ := d0
  have b0 := atF_bound l 0 (most := 14) (by omega)
  unfold strF
  obtain ⟨m, hm⟩ : ∃ m : Nat, atF l 0 14 = m := ⟨(atF l 0 14).toNat, by omega⟩
  rw [hm] at d0 b0 ⊢
  rw [show ((m : Int)).toNat = m from rfl]
  (refine PCalls_f Tryd.func14 rfl Tryd.ntmps14 Tryd.results14 (by simp) fun fin hfin => ?_; have hnm : True := trivial; simp (maxSteps := 2000000) (disch := omega) only [evb, evd, eve, constPV, seqK, blockK, scopeK, pbound, pelems, PV.mem?, PV.one, PV.cells, peqs, peq1, pkeys, pkeyt, List.set, Value.cells, ↓popG_eq, ↓pop.eq_1, ↓List.getElem?_map, ↓List.getElem?_cons_zero, ↓List.getElem?_cons_succ, Value.oneCell', Nat.reduceAdd, Nat.reduceMul, Nat.reduceSub, Nat.reduceLeDiff, Nat.reduceEqDiff, ↓reduceIte, ne_eq, reduceCtorEq, forall_const, exists_and_left, exists_eq_left', eq_self, Nat.reduceLT, Int.reduceLT, Int.reduceLE, Int.reduceToNat, Int.reduceAdd, Int.reduceSub, Int.reduceNeg, hnm, Tryd.tf1, Tryd.tf3, Tryd.tf4, Tryd.tf5, Tryd.tf9, Tryd.tf22, Tryd.tf23, Tryd.tf60, Tryd.tf69, Tryd.call36, Tryd.call38])
  repeat' (first
    | (with_reducible apply W_seq_k; intro nx hnx)
    | (with_reducible first | apply W_block | apply W_scope)
    | (with_reducible refine W_prune 1991 ?_; simp only [prb, Nat.reducePow, Nat.reduceDiv, Nat.reduceMod, Nat.reduceBEq]; with_reducible apply W_region_l)
    | ((first | (with_reducible apply WL_op; intro nx hnx) | with_reducible refine Ev_out ?_ | (with_reducible refine pfresh_k hnm fun nm hnm => ?_; (try simp only [fmb] at hnm)) | (with_reducible refine pborn_mu hnm fun nm hnm => ?_; (try simp only [fmb] at hnm))); try (simp (maxSteps := 2000000) (disch := omega) only [evb, evd, eve, constPV, seqK, blockK, scopeK, pbound, pelems, PV.mem?, PV.one, PV.cells, peqs, peq1, pkeys, pkeyt, List.set, Value.cells, ↓popG_eq, ↓pop.eq_1, ↓List.getElem?_map, ↓List.getElem?_cons_zero, ↓List.getElem?_cons_succ, Value.oneCell', Nat.reduceAdd, Nat.reduceMul, Nat.reduceSub, Nat.reduceLeDiff, Nat.reduceEqDiff, ↓reduceIte, ne_eq, reduceCtorEq, forall_const, exists_and_left, exists_eq_left', eq_self, Nat.reduceLT, Int.reduceLT, Int.reduceLE, Int.reduceToNat, Int.reduceAdd, Int.reduceSub, Int.reduceNeg, hnm, Tryd.tf1, Tryd.tf3, Tryd.tf4, Tryd.tf5, Tryd.tf9, Tryd.tf22, Tryd.tf23, Tryd.tf60, Tryd.tf69, Tryd.call36, Tryd.call38]); repeat (refine And.intro (by omega) ?_))
    | ((with_reducible first | apply WL_nil | apply W_label | apply W_skip | apply W_exit | apply W_ret); try simp only [seqK, blockK, scopeK, ↓reduceIte, Nat.reduceEqDiff])
    | (with_reducible apply W_cond_k; intro _ _ ea eb; (simp only [condK, cob, opnd, constPV, Nat.reduceEqDiff, Nat.reduceLT, ↓reduceIte, hcb, reduceCtorEq, forall_const, ne_eq]); subst ea eb; first | (refine ⟨fun hc => ?_, fun hc => ?_⟩ <;> first | (exfalso; omega) | (exfalso; exact hc trivial) | skip) | skip)
    | (with_reducible apply hnx; clear hnx nx)
    | (with_reducible refine And.intro (by omega) ?_)
    | (with_reducible refine And.intro ?_ ?_)
    | (with_reducible refine pcall_k (d0) ?_; rintro _ _ ⟨rfl, rfl⟩ -; refine Ev_in ?_)
    | (clear hnx nx; with_reducible apply hnx; clear hnx nx)
    | (clear hnx nx; clear hnx nx; with_reducible apply hnx; clear hnx nx))
  all_goals first | exact absurd trivial hc | contradiction | exact fun h => False.elim h | (exfalso; omega) | (exfalso; have hc := of_decide_eq_false hc; omega) | (exfalso; simp only [Bool.not_false, Bool.not_true, decide_eq_true_eq, decide_eq_false_iff_not] at *; omega) | skip
  refine W_loop_k (fun z τ => ∃ i : Nat, i ≤ m ∧ z = m - i ∧ τ = ⟨fr 56 [(9, pint .i64 ((i : Int) + 1)), (8, pn m), (7, pstr (strN a l i)), (2, pint .i64 0), (1, wP l), (0, ltsP a)], []⟩) m
    ⟨fr 56 [(9, pint .i64 1), (8, pn m), (7, .val (.string ⟨#[]⟩)), (2, pint .i64 0), (1, wP l), (0, ltsP a)], []⟩ (by
    exact Wk_fr (by simp only [wkb, Nat.reduceEqDiff, Nat.reduceLT, ↓reduceIte, pn]) (Sub_nil _)) ⟨0, by omega, by omega, rfl⟩ ?_
  rintro z τ ⟨i, hi, rfl, rfl⟩ lp hlp
  have hlen := strN_len hax l i
  by_cases him : i < m
  · have d1 := at_c G l hl (i + 1) 4000 (by omega) (by omega)
    have b1 := atF_bound l (i + 1) (most := 4000) (by omega)
    have hst := strN_step a l i
    obtain ⟨x, hx⟩ : ∃ x : Nat, atF l (i + 1) 4000 = x := ⟨(atF l (i + 1) 4000).toNat, by omega⟩
    rw [hx] at d1 b1 hst
    rw [show ((x : Int)).toNat = x from rfl] at hst
    simp only [pn, Int.natCast_add, Int.cast_ofNat_Int] at d1
    have hzi : (0 : Int) + (i + 1) = i + 1 := by omega
    have t1 : ((x : Int)).tmod 12 = ((x % 12 : Nat) : Int) := by rw [Int.tmod_eq_emod_of_nonneg (by omega)]; omega
    have t2 : ((x : Int)).tmod 40 = ((x % 40 : Nat) : Int) := by rw [Int.tmod_eq_emod_of_nonneg (by omega)]; omega
    have t3 : ((x : Int)).tdiv 12 = ((x / 12 : Nat) : Int) := by rw [Int.tdiv_eq_ediv_of_nonneg (by omega)]; omega
    have t4 : ((x : Int)).tdiv 40 = ((x / 40 : Nat) : Int) := by rw [Int.tdiv_eq_ediv_of_nonneg (by omega)]; omega
    have t5 : (((x / 12 : Nat) : Int)).tmod 200 = ((x / 12 % 200 : Nat) : Int) := by rw [Int.tmod_eq_emod_of_nonneg (by omega)]; omega
    have t6 : (((x / 40 : Nat) : Int)).tmod 40 = ((x / 40 % 40 : Nat) : Int) := by rw [Int.tmod_eq_emod_of_nonneg (by omega)]; omega
    have w1 : IntKind.u8.wrap (33 + ((x / 12 % 200 : Nat) : Int)) = (UInt8.ofNat (33 + x / 12 % 200)).toNat := by
      rw [wr8u _ (by omega) (by omega), UInt8.toNat_ofNat']
      omega
    have w2 : IntKind.u8.wrap ((x / 40 % 40 : Nat) : Int) = (UInt8.ofNat (x / 40 % 40)).toNat := by
      rw [wr8u _ (by omega) (by omega), UInt8.toNat_ofNat']
      omega
    have e1 := character_c G a (x / 12) ha (by omega)
    have l1 := chrF_len hax (x / 12)
    unfold pieceS at hst
    generalize UInt8.ofNat (33 + x / 12 % 200) = c1 at *
    generalize UInt8.ofNat (x / 40 % 40) = c2 at *
    generalize chrF a (x / 12) = ct at *
    have hu1 : unb (pint .u8 c1.toNat) = c1 := List.singleton_inj.1 (unb_pb [c1])
    have hu2 : isByte (pint .u8 c1.toNat) = true := isByte_pbyte c1
    have hu3 : unb (pint .u8 c2.toNat) = c2 := List.singleton_inj.1 (unb_pb [c2])
    have hu4 : isByte (pint .u8 c2.toNat) = true := isByte_pbyte c2
    generalize strN a l i = s at *
    repeat' (first
    | (with_reducible apply W_seq_k; intro nx hnx)
    | (with_reducible first | apply W_block | apply W_scope)
    | (with_reducible refine W_prune 1991 ?_; simp only [prb, Nat.reducePow, Nat.reduceDiv, Nat.reduceMod, Nat.reduceBEq]; with_reducible apply W_region_l)
    | ((first | (with_reducible apply WL_op; intro nx hnx) | with_reducible refine Ev_out ?_ | (with_reducible refine pfresh_k hnm fun nm hnm => ?_; (try simp only [fmb] at hnm)) | (with_reducible refine pborn_mu hnm fun nm hnm => ?_; (try simp only [fmb] at hnm))); try (simp (maxSteps := 2000000) (disch := omega) only [evb, evd, eve, constPV, seqK, blockK, scopeK, pbound, pelems, PV.mem?, PV.one, PV.cells, peqs, peq1, pkeys, pkeyt, List.set, Value.cells, ↓popG_eq, ↓pop.eq_1, ↓List.getElem?_map, ↓List.getElem?_cons_zero, ↓List.getElem?_cons_succ, Value.oneCell', Nat.reduceAdd, Nat.reduceMul, Nat.reduceSub, Nat.reduceLeDiff, Nat.reduceEqDiff, ↓reduceIte, ne_eq, reduceCtorEq, forall_const, exists_and_left, exists_eq_left', eq_self, Nat.reduceLT, Int.reduceLT, Int.reduceLE, Int.reduceToNat, Int.reduceAdd, Int.reduceSub, Int.reduceNeg, hnm, Tryd.tf1, Tryd.tf3, Tryd.tf4, Tryd.tf5, Tryd.tf9, Tryd.tf22, Tryd.tf23, Tryd.tf60, Tryd.tf69, Tryd.call36, Tryd.call38, hzi, t1, t2, t3, t4, t5, t6, w1, w2, hu1, hu2, hu3, hu4]); repeat (refine And.intro (by omega) ?_))
    | ((with_reducible first | apply WL_nil | apply W_label | apply W_skip | apply W_exit | apply W_ret); try simp only [seqK, blockK, scopeK, ↓reduceIte, Nat.reduceEqDiff])
    | (with_reducible apply W_cond_k; intro _ _ ea eb; (simp only [condK, cob, opnd, constPV, Nat.reduceEqDiff, Nat.reduceLT, ↓reduceIte, hcb, reduceCtorEq, forall_const, ne_eq]); subst ea eb; first | (refine ⟨fun hc => ?_, fun hc => ?_⟩ <;> first | (exfalso; omega) | (exfalso; exact hc trivial) | skip) | skip)
    | (with_reducible apply hnx; clear hnx nx)
    | (with_reducible refine And.intro (by omega) ?_)
    | (with_reducible refine And.intro ?_ ?_)
    | (with_reducible refine pcall_k (d1) ?_; rintro _ _ ⟨rfl, rfl⟩ -; refine Ev_in ?_)
    | (with_reducible refine pcall_k (e1) ?_; rintro _ _ ⟨rfl, rfl⟩ -; refine Ev_in ?_)
    | (clear hnx nx; with_reducible apply hnx; clear hnx nx)
    | (clear hnx nx; clear hnx nx; with_reducible apply hnx; clear hnx nx))
    all_goals first | exact absurd trivial hc | contradiction | exact fun h => False.elim h | (exfalso; omega) | (exfalso; have hc := of_decide_eq_false hc; omega) | (exfalso; simp only [Bool.not_false, Bool.not_true, decide_eq_true_eq, decide_eq_false_iff_not] at *; omega) | skip
    all_goals first
      | exact (by kernel_rfl : Tryd.prog.underlying 5 = some (.int .u8))
      | skip
    all_goals
      refine hlp _ (m - (i + 1)) ⟨fr 56 [(9, pint .i64 (((i + 1 : Nat) : Int) + 1)), (8, pn m), (7, pstr (strN a l (i + 1))), (2, pint .i64 0), (1, wP l), (0, ltsP a)], []⟩ (by omega) ?_ ⟨i + 1, by omega, rfl, rfl⟩
      rw [hst]
      first
        | (rw [if_pos (by omega)]
           exact Wk_fr (by simp only [wkb, Nat.reduceEqDiff, Nat.reduceLT, ↓reduceIte, pn, Int.natCast_add, Int.cast_ofNat_Int]) (Sub_nil _))
        | (rw [if_neg (by omega), if_pos (by omega)]
           exact Wk_fr (by simp only [wkb, Nat.reduceEqDiff, Nat.reduceLT, ↓reduceIte, pn, Int.natCast_add, Int.cast_ofNat_Int]) (Sub_nil _))
        | (rw [if_neg (by omega), if_neg (by omega)]
           exact Wk_fr (by simp only [wkb, Nat.reduceEqDiff, Nat.reduceLT, ↓reduceIte, pn, Int.natCast_add, Int.cast_ofNat_Int]) (Sub_nil _))
  · have hi2 : i = m := by omega
    subst hi2
    repeat' (first
    | (with_reducible apply W_seq_k; intro nx hnx)
    | (with_reducible first | apply W_block | apply W_scope)
    | (with_reducible refine W_prune 1991 ?_; simp only [prb, Nat.reducePow, Nat.reduceDiv, Nat.reduceMod, Nat.reduceBEq]; with_reducible apply W_region_l)
    | ((first | (with_reducible apply WL_op; intro nx hnx) | with_reducible refine Ev_out ?_ | (with_reducible refine pfresh_k hnm fun nm hnm => ?_; (try simp only [fmb] at hnm)) | (with_reducible refine pborn_mu hnm fun nm hnm => ?_; (try simp only [fmb] at hnm))); try (simp (maxSteps := 2000000) (disch := omega) only [evb, evd, eve, constPV, seqK, blockK, scopeK, pbound, pelems, PV.mem?, PV.one, PV.cells, peqs, peq1, pkeys, pkeyt, List.set, Value.cells, ↓popG_eq, ↓pop.eq_1, ↓List.getElem?_map, ↓List.getElem?_cons_zero, ↓List.getElem?_cons_succ, Value.oneCell', Nat.reduceAdd, Nat.reduceMul, Nat.reduceSub, Nat.reduceLeDiff, Nat.reduceEqDiff, ↓reduceIte, ne_eq, reduceCtorEq, forall_const, exists_and_left, exists_eq_left', eq_self, Nat.reduceLT, Int.reduceLT, Int.reduceLE, Int.reduceToNat, Int.reduceAdd, Int.reduceSub, Int.reduceNeg, hnm, Tryd.tf1, Tryd.tf3, Tryd.tf4, Tryd.tf5, Tryd.tf9, Tryd.tf22, Tryd.tf23, Tryd.tf60, Tryd.tf69, Tryd.call36, Tryd.call38]); repeat (refine And.intro (by omega) ?_))
    | ((with_reducible first | apply WL_nil | apply W_label | apply W_skip | apply W_exit | apply W_ret); try simp only [seqK, blockK, scopeK, ↓reduceIte, Nat.reduceEqDiff])
    | (with_reducible apply W_cond_k; intro _ _ ea eb; (simp only [condK, cob, opnd, constPV, Nat.reduceEqDiff, Nat.reduceLT, ↓reduceIte, hcb, reduceCtorEq, forall_const, ne_eq]); subst ea eb; first | (refine ⟨fun hc => ?_, fun hc => ?_⟩ <;> first | (exfalso; omega) | (exfalso; exact hc trivial) | skip) | skip)
    | (with_reducible apply hnx; clear hnx nx)
    | (with_reducible refine And.intro (by omega) ?_)
    | (with_reducible refine And.intro ?_ ?_)
    | (clear hnx nx; with_reducible apply hnx; clear hnx nx)
    | (clear hnx nx; clear hnx nx; with_reducible apply hnx; clear hnx nx))
    all_goals first | exact absurd trivial hc | contradiction | exact fun h => False.elim h | (exfalso; omega) | (exfalso; have hc := of_decide_eq_false hc; omega) | (exfalso; simp only [Bool.not_false, Bool.not_true, decide_eq_true_eq, decide_eq_false_iff_not] at *; omega) | skip
    all_goals
      refine hfin _ _ (Fin_ret1 rfl (Sub_nil _) ?_); simp only [List.getD_cons_zero, List.getD_cons_succ, fr_getD_cons, fr_getD_nil, Nat.reduceEqDiff, Nat.reduceLT, ↓reduceIte]
      exact ⟨by first | rfl | trivial, by trivial⟩
end Go.PM

namespace Go.PM
open Go.Proofs
attribute [local irreducible] W PCalls pcall pcallI WL
def exA : List Ltr := [⟨[65], 0, 0, 0, 7⟩, ⟨[86], 1, 0, 0, 7⟩, ⟨[99, 104], 2, 0, 0, 11⟩]
def exF : Font := ⟨3, 5, 4, 110, [⟨[65], [86], 2⟩, ⟨[49], [49], 1⟩]⟩
theorem exA_HA : HA exA := ⟨by decide, by decide⟩
theorem exF_ok : okFont exF = true := by decide +kernel
theorem exF_HF : HF exF := by
  refine ⟨by decide, by decide, ?_⟩
  decide
theorem ex_widths : widthsF exA exF [65, 86, 65, 32, 49] false = ([7, 12, 19, 22, 27], 0) := by decide +kernel
theorem ex_f1 : fitF exA exF [65, 86, 99, 104] false 12 = [65, 86] := by decide +kernel
theorem ex_f2 : fitF exA exF [65, 86, 99, 104] false 22 = [65, 86] := by decide +kernel
theorem ex_f3 : fitF exA exF [65, 86, 99, 104] false 23 = [65, 86, 99, 104] := by decide +kernel
theorem ex_f4 : fitF exA exF [65, 86, 99, 104] false (-1) = [] := by decide +kernel
theorem ex_w1 : widthF exA exF [65, 86] false = (12, 0) := by decide +kernel
theorem ex_w2 : widthF exA exF [65, 32, 86] false = (17, 0) := by decide +kernel
theorem ex_w3 : widthF exA exF [86, 99, 104] false = (18, 0) := by decide +kernel
theorem ex_w4 : widthF exA exF [65, 86] true = (14, 0) := by decide +kernel
theorem ex_i1 : Lib.itoa 11 = [49, 49] := by
  rw [Lib.itoa, if_neg (by decide), dec_lib, show (11 : Int).toNat = 11 from rfl, decF_ge (by decide), decF_lt (by decide)]
  rfl
theorem ex_i2 : Lib.itoa (-7) = [45, 55] := by
  rw [Lib.itoa, if_pos (by decide), dec_lib, show (-7 : Int).natAbs = 7 from rfl, decF_lt (by decide)]
  rfl
theorem ex_i3 : Lib.itoa 0 = [48] := by
  rw [Lib.itoa, if_neg (by decide), dec_lib, show (0 : Int).toNat = 0 from rfl, decF_lt (by decide)]
  rfl
theorem ex_n1 : numberF exF 11 false = 9 := by
  unfold numberF
  rw [ex_i1]
  decide +kernel
theorem ex_n2 : numberF exF (-7) false = 9 := by
  unfold numberF
  rw [ex_i2]
  decide +kernel
theorem ex_n3 : numberF exF 0 false = 5 := by
  unfold numberF
  rw [ex_i3]
  decide +kernel
set_option maxRecDepth 100000
set_option maxHeartbeats 8000000
theorem pres27 {σ : PState} {x : Tmp} {n : Int} {p q r t u : PV} (hx : σ.frame.getD x .junk = .ptr n 0) (hl : look σ.heap n = some ⟨27, false, 0, [p, q, r, t, u]⟩) : PRes Tryd.prog σ (.cell x 27) (.agg [p, q, r, t, u]) := by
  simp only [PRes, Tryd.tf27, hx, hl, pload]
  simp
theorem example_c (G : Globs) : PCalls Tryd.prog G 46 [] [] (fun res H => res = .tuple [ltsP exA, foP exF] ∧ H = []) := by
  (refine PCalls_f Tryd.func46 rfl Tryd.ntmps46 Tryd.results46 (by simp) fun fin hfin => ?_; have hnm : True := trivial; simp (maxSteps := 2000000) (disch := omega) only [evb, evd, eve, constPV, seqK, blockK, scopeK, pbound, pelems, PV.mem?, PV.one, PV.cells, peqs, peq1, pkeys, pkeyt, List.set, Value.cells, ↓popG_eq, ↓pop.eq_1, ↓List.getElem?_map, ↓List.getElem?_cons_zero, ↓List.getElem?_cons_succ, Value.oneCell', Nat.reduceAdd, Nat.reduceMul, Nat.reduceSub, Nat.reduceLeDiff, Nat.reduceEqDiff, ↓reduceIte, ne_eq, reduceCtorEq, forall_const, exists_and_left, exists_eq_left', eq_self, Nat.reduceLT, Int.reduceLT, Int.reduceLE, Int.reduceToNat, Int.reduceAdd, Int.reduceSub, Int.reduceNeg, hnm, Tryd.tf0, Tryd.tf2, Tryd.tf3, Tryd.tf23, Tryd.tf25, Tryd.tf27, Tryd.tf60, Tryd.tf68])
  repeat' (first
    | (with_reducible apply W_seq_k; intro nx hnx)
    | (with_reducible first | apply W_block | apply W_scope)
    | (with_reducible refine W_prune 7 ?_; simp only [prb, Nat.reducePow, Nat.reduceDiv, Nat.reduceMod, Nat.reduceBEq]; with_reducible apply W_region_l)
    | (with_reducible refine WL_born (by simp) rfl (by simp) ?_; simp only [elemsOf, nl, List.map_cons, List.map_nil, Nat.reduceEqDiff, ↓reduceIte, List.take_succ_cons, List.take_zero, List.range_succ, List.range_zero, List.nil_append, List.cons_append, List.map_append, List.drop_succ_cons, List.drop_zero, Nat.reduceMul, Nat.zero_mul, Nat.one_mul, Nat.reduceAdd])
    | (with_reducible refine WL_bornH (by simp) (by simp) ?_ ?_ ?_; (· simp [frz, frz1, hnm]); (· simp [frz1, hnm, PV.one, Value.oneCell']); simp only [elemsOf, nl, List.map_cons, List.map_nil, Nat.reduceEqDiff, ↓reduceIte, List.take_succ_cons, List.take_zero, List.range_succ, List.range_zero, List.nil_append, List.cons_append, List.map_append, List.drop_succ_cons, List.drop_zero, Nat.reduceMul, Nat.zero_mul, Nat.one_mul, Nat.reduceAdd])
    | ((first | (with_reducible apply WL_op; intro nx hnx) | with_reducible refine Ev_out ?_ | (with_reducible refine pfresh_k hnm fun nm hnm => ?_; (try simp only [fmb] at hnm)) | (with_reducible refine pborn_im ?_; simp only [elemsOf, nl, List.map_cons, List.map_nil, Nat.reduceEqDiff, ↓reduceIte, List.take_succ_cons, List.take_zero, List.range_succ, List.range_zero, List.nil_append, List.cons_append, List.map_append, List.drop_succ_cons, List.drop_zero, Nat.reduceMul, Nat.zero_mul, Nat.one_mul, Nat.reduceAdd])); try (simp (maxSteps := 2000000) (disch := omega) only [evb, evd, eve, constPV, seqK, blockK, scopeK, pbound, pelems, PV.mem?, PV.one, PV.cells, peqs, peq1, pkeys, pkeyt, List.set, Value.cells, ↓popG_eq, ↓pop.eq_1, ↓List.getElem?_map, ↓List.getElem?_cons_zero, ↓List.getElem?_cons_succ, Value.oneCell', Nat.reduceAdd, Nat.reduceMul, Nat.reduceSub, Nat.reduceLeDiff, Nat.reduceEqDiff, ↓reduceIte, ne_eq, reduceCtorEq, forall_const, exists_and_left, exists_eq_left', eq_self, Nat.reduceLT, Int.reduceLT, Int.reduceLE, Int.reduceToNat, Int.reduceAdd, Int.reduceSub, Int.reduceNeg, hnm, Tryd.tf0, Tryd.tf2, Tryd.tf3, Tryd.tf23, Tryd.tf25, Tryd.tf27, Tryd.tf60, Tryd.tf68]); repeat (refine And.intro (by omega) ?_))
    | ((with_reducible first | apply WL_nil | apply W_label | apply W_skip | apply W_exit | apply W_ret); try simp only [seqK, blockK, scopeK, ↓reduceIte, Nat.reduceEqDiff])
    | (with_reducible apply W_cond_k; intro _ _ ea eb; (simp only [condK, cob, opnd, constPV, Nat.reduceEqDiff, Nat.reduceLT, ↓reduceIte, hcb, reduceCtorEq, forall_const, ne_eq]); subst ea eb; first | (refine ⟨fun hc => ?_, fun hc => ?_⟩ <;> first | (exfalso; omega) | (exfalso; exact hc trivial) | skip) | skip)
    | (with_reducible apply hnx; clear hnx nx)
    | (with_reducible refine And.intro (by omega) ?_)
    | (with_reducible refine And.intro ?_ ?_)
    | (clear hnx nx; with_reducible apply hnx; clear hnx nx)
    | (clear hnx nx; clear hnx nx; with_reducible apply hnx; clear hnx nx))
  all_goals first | exact absurd trivial hc | contradiction | exact fun h => False.elim h | (exfalso; omega) | (exfalso; have hc := of_decide_eq_false hc; omega) | (exfalso; simp only [Bool.not_false, Bool.not_true, decide_eq_true_eq, decide_eq_false_iff_not] at *; omega) | skip
  all_goals
    refine hfin _ _ (Fin_ret (H := []) (res := .tuple [ltsP exA, foP exF]) ⟨[ltsP exA, foP exF], ⟨?_, ?_, trivial⟩, rfl⟩ (Sub_nil _) ⟨rfl, rfl⟩)
    · simp only [PRes, fr_getD_cons, fr_getD_nil, Nat.reduceEqDiff, Nat.reduceLT, ↓reduceIte]
      rfl
    · exact pres27 (n := _) (by (try simp only [fr_getD_cons, fr_getD_nil, Nat.reduceEqDiff, Nat.reduceLT, ↓reduceIte]); first | done | rfl) (by (try simp only [look, hnm, ↓reduceIte]); first | done | rfl)
theorem width_ex (G : Globs) (s : List UInt8) (bold : Bool) (hs : s.length ≤ 100) : PCalls Tryd.prog G 47 [pstr s, pbool bold] [] (fun res H => res = pint .i64 (widthF exA exF s bold).1 ∧ H = []) := by
  have c1 := example_c G
  have c2 := width_c G exA exF s bold exA_HA exF_HF (by omega)
  generalize widthF exA exF s bold = w at *
  generalize exA = a at *
  generalize exF = f at *
  (refine PCalls_f Tryd.func47 rfl Tryd.ntmps47 Tryd.results47 (by simp) fun fin hfin => ?_; have hnm : True := trivial; simp (maxSteps := 2000000) (disch := omega) only [evb, evd, eve, constPV, seqK, blockK, scopeK, pbound, pelems, PV.mem?, PV.one, PV.cells, peqs, peq1, pkeys, pkeyt, List.set, Value.cells, ↓popG_eq, ↓pop.eq_1, ↓List.getElem?_map, ↓List.getElem?_cons_zero, ↓List.getElem?_cons_succ, Value.oneCell', Nat.reduceAdd, Nat.reduceMul, Nat.reduceSub, Nat.reduceLeDiff, Nat.reduceEqDiff, ↓reduceIte, ne_eq, reduceCtorEq, forall_const, exists_and_left, exists_eq_left', eq_self, Nat.reduceLT, Int.reduceLT, Int.reduceLE, Int.reduceToNat, Int.reduceAdd, Int.reduceSub, Int.reduceNeg, hnm, Tryd.tf0, Tryd.tf1, Tryd.tf3, Tryd.tf4, Tryd.tf9, Tryd.tf23, Tryd.tf27, Tryd.tf37, Tryd.tf38, Tryd.tf60, Tryd.tf77, Tryd.call18, Tryd.call46])
  repeat' (first
    | (with_reducible apply W_seq_k; intro nx hnx)
    | (with_reducible first | apply W_block | apply W_scope)
    | (with_reducible refine W_prune 243 ?_; simp only [prb, Nat.reducePow, Nat.reduceDiv, Nat.reduceMod, Nat.reduceBEq]; with_reducible apply W_region_l)
    | ((first | (with_reducible apply WL_op; intro nx hnx) | with_reducible refine Ev_out ?_ | (with_reducible refine pfresh_k hnm fun nm hnm => ?_; (try simp only [fmb] at hnm)) | (with_reducible refine pborn_mu hnm fun nm hnm => ?_; (try simp only [fmb] at hnm))); try (simp (maxSteps := 2000000) (disch := omega) only [evb, evd, eve, constPV, seqK, blockK, scopeK, pbound, pelems, PV.mem?, PV.one, PV.cells, peqs, peq1, pkeys, pkeyt, List.set, Value.cells, ↓popG_eq, ↓pop.eq_1, ↓List.getElem?_map, ↓List.getElem?_cons_zero, ↓List.getElem?_cons_succ, Value.oneCell', Nat.reduceAdd, Nat.reduceMul, Nat.reduceSub, Nat.reduceLeDiff, Nat.reduceEqDiff, ↓reduceIte, ne_eq, reduceCtorEq, forall_const, exists_and_left, exists_eq_left', eq_self, Nat.reduceLT, Int.reduceLT, Int.reduceLE, Int.reduceToNat, Int.reduceAdd, Int.reduceSub, Int.reduceNeg, hnm, Tryd.tf0, Tryd.tf1, Tryd.tf3, Tryd.tf4, Tryd.tf9, Tryd.tf23, Tryd.tf27, Tryd.tf37, Tryd.tf38, Tryd.tf60, Tryd.tf77, Tryd.call18, Tryd.call46]); repeat (refine And.intro (by omega) ?_))
    | ((with_reducible first | apply WL_nil | apply W_label | apply W_skip | apply W_exit | apply W_ret); try simp only [seqK, blockK, scopeK, ↓reduceIte, Nat.reduceEqDiff])
    | (with_reducible apply W_cond_k; intro _ _ ea eb; (simp only [condK, cob, opnd, constPV, Nat.reduceEqDiff, Nat.reduceLT, ↓reduceIte, hcb, reduceCtorEq, forall_const, ne_eq]); subst ea eb; first | (refine ⟨fun hc => ?_, fun hc => ?_⟩ <;> first | (exfalso; omega) | (exfalso; exact hc trivial) | skip) | skip)
    | (with_reducible apply hnx; clear hnx nx)
    | (with_reducible refine And.intro (by omega) ?_)
    | (with_reducible refine And.intro ?_ ?_)
    | (with_reducible refine pcall_k (c1) ?_; rintro _ _ ⟨rfl, rfl⟩ -; refine Ev_in ?_)
    | (with_reducible refine pcall_k (c2) ?_; rintro _ _ ⟨rfl, rfl⟩ -; refine Ev_in ?_)
    | (clear hnx nx; with_reducible apply hnx; clear hnx nx)
    | (clear hnx nx; clear hnx nx; with_reducible apply hnx; clear hnx nx))
  all_goals first | exact absurd trivial hc | contradiction | exact fun h => False.elim h | (exfalso; omega) | (exfalso; have hc := of_decide_eq_false hc; omega) | (exfalso; simp only [Bool.not_false, Bool.not_true, decide_eq_true_eq, decide_eq_false_iff_not] at *; omega) | skip
  all_goals
    refine hfin _ _ (Fin_ret1 rfl (Sub_nil _) ?_); simp only [List.getD_cons_zero, List.getD_cons_succ, fr_getD_cons, fr_getD_nil, Nat.reduceEqDiff, Nat.reduceLT, ↓reduceIte]
    exact ⟨by first | rfl | trivial, by trivial⟩
theorem lives_c (G : Globs) (t : TypeId) (hG : G 1 = .gtab t powC) : PCalls Tryd.prog G 23 [] [] (fun res H => res = pbool true ∧ H = []) := by
  have c1 := example_c G
  have c2 := widths_c G exA exF [65, 86, 65, 32, 49] false exA_HA exF_HF (by decide)
  have c3 := fit_c G exA exF [65, 86, 99, 104] false 12 exA_HA exF_HF (by decide) (by decide)
  have c4 := fit_c G exA exF [65, 86, 99, 104] false 22 exA_HA exF_HF (by decide) (by decide)
  have c5 := fit_c G exA exF [65, 86, 99, 104] false 23 exA_HA exF_HF (by decide) (by decide)
  have c6 := fit_c G exA exF [65, 86, 99, 104] false (-1) exA_HA exF_HF (by decide) (by decide)
  have c7 := number_c G t hG exF 11 false exF_HF (by decide) (by decide)
  have c8 := number_c G t hG exF (-7) false exF_HF (by decide) (by decide)
  have c9 := number_c G t hG exF 0 false exF_HF (by decide) (by decide)
  have d1 := width_ex G [65, 86] false (by decide)
  have d2 := width_ex G [65, 32, 86] false (by decide)
  have d3 := width_ex G [86, 99, 104] false (by decide)
  have d4 := width_ex G [65, 86] true (by decide)
  have d5 := fvalid_c G exF exF_HF
  have d6 := sameInts_c G [7, 12, 19, 22, 27] [7, 12, 19, 22, 27] (by decide)
  rw [ex_widths] at c2
  rw [ex_f1] at c3
  rw [ex_f2] at c4
  rw [ex_f3] at c5
  rw [ex_f4] at c6
  rw [ex_n1] at c7
  rw [ex_n2] at c8
  rw [ex_n3] at c9
  rw [ex_w1] at d1
  rw [ex_w2] at d2
  rw [ex_w3] at d3
  rw [ex_w4] at d4
  rw [exF_ok] at d5
  generalize exA = a at *
  generalize exF = f at *
  have c2 : PCalls Tryd.prog G 20 [ltsP a, foP f, .val (.string ⟨#[65, 86, 65, 32, 49]⟩), .val (.bool false)] [] _ := c2
  have c3 : PCalls Tryd.prog G 25 [ltsP a, foP f, .val (.string ⟨#[65, 86, 99, 104]⟩), .val (.bool false), .val (.int .i64 12)] [] _ := c3
  have c4 : PCalls Tryd.prog G 25 [ltsP a, foP f, .val (.string ⟨#[65, 86, 99, 104]⟩), .val (.bool false), .val (.int .i64 22)] [] _ := c4
  have c5 : PCalls Tryd.prog G 25 [ltsP a, foP f, .val (.string ⟨#[65, 86, 99, 104]⟩), .val (.bool false), .val (.int .i64 23)] [] _ := c5
  have c6 : PCalls Tryd.prog G 25 [ltsP a, foP f, .val (.string ⟨#[65, 86, 99, 104]⟩), .val (.bool false), .val (.int .i64 (-1))] [] _ := c6
  have c7 : PCalls Tryd.prog G 27 [foP f, .val (.int .i64 11), .val (.bool false)] [] _ := c7
  have c8 : PCalls Tryd.prog G 27 [foP f, .val (.int .i64 (-7)), .val (.bool false)] [] _ := c8
  have c9 : PCalls Tryd.prog G 27 [foP f, .val (.int .i64 0), .val (.bool false)] [] _ := c9
  have d1 : PCalls Tryd.prog G 47 [.val (.string ⟨#[65, 86]⟩), .val (.bool false)] [] _ := d1
  have d2 : PCalls Tryd.prog G 47 [.val (.string ⟨#[65, 32, 86]⟩), .val (.bool false)] [] _ := d2
  have d3 : PCalls Tryd.prog G 47 [.val (.string ⟨#[86, 99, 104]⟩), .val (.bool false)] [] _ := d3
  have d4 : PCalls Tryd.prog G 47 [.val (.string ⟨#[65, 86]⟩), .val (.bool true)] [] _ := d4
  have d6 : PCalls Tryd.prog G 22 [wP [7, 12, 19, 22, 27], .list 1 [.val (.int .i64 7), .val (.int .i64 12), .val (.int .i64 19), .val (.int .i64 22), .val (.int .i64 27)]] [] _ := d6
  (refine PCalls_f Tryd.func23 rfl Tryd.ntmps23 Tryd.results23 (by simp) fun fin hfin => ?_; have hnm : True := trivial; simp (maxSteps := 2000000) (disch := omega) only [evb, evd, eve, constPV, seqK, blockK, scopeK, pbound, pelems, PV.mem?, PV.one, PV.cells, peqs, peq1, pkeys, pkeyt, List.set, Value.cells, ↓popG_eq, ↓pop.eq_1, ↓List.getElem?_map, ↓List.getElem?_cons_zero, ↓List.getElem?_cons_succ, Value.oneCell', Nat.reduceAdd, Nat.reduceMul, Nat.reduceSub, Nat.reduceLeDiff, Nat.reduceEqDiff, ↓reduceIte, ne_eq, reduceCtorEq, forall_const, exists_and_left, exists_eq_left', eq_self, Nat.reduceLT, Int.reduceLT, Int.reduceLE, Int.reduceToNat, Int.reduceAdd, Int.reduceSub, Int.reduceNeg, hnm, Tryd.tf0, Tryd.tf1, Tryd.tf3, Tryd.tf4, Tryd.tf5, Tryd.tf9, Tryd.tf22, Tryd.tf23, Tryd.tf27, Tryd.tf37, Tryd.tf40, Tryd.tf60, Tryd.tf77, Tryd.call16, Tryd.call20, Tryd.call22, Tryd.call25, Tryd.call27, Tryd.call46, Tryd.call47])
  repeat' (first
    | (with_reducible apply W_seq_k; intro nx hnx)
    | (with_reducible first | apply W_block | apply W_scope)
    | (with_reducible refine W_prune 255 ?_; simp only [prb, Nat.reducePow, Nat.reduceDiv, Nat.reduceMod, Nat.reduceBEq]; with_reducible apply W_region_l)
    | (with_reducible refine WL_born (by simp) rfl (by simp) ?_; simp only [elemsOf, nl, List.map_cons, List.map_nil, Nat.reduceEqDiff, ↓reduceIte, List.take_succ_cons, List.take_zero, List.range_succ, List.range_zero, List.nil_append, List.cons_append, List.map_append, List.drop_succ_cons, List.drop_zero, Nat.reduceMul, Nat.zero_mul, Nat.one_mul, Nat.reduceAdd])
    | (with_reducible refine WL_bornH (by simp) (by simp) ?_ ?_ ?_; (· simp [frz, frz1, hnm]); (· simp [frz1, hnm, PV.one, Value.oneCell']); simp only [elemsOf, nl, List.map_cons, List.map_nil, Nat.reduceEqDiff, ↓reduceIte, List.take_succ_cons, List.take_zero, List.range_succ, List.range_zero, List.nil_append, List.cons_append, List.map_append, List.drop_succ_cons, List.drop_zero, Nat.reduceMul, Nat.zero_mul, Nat.one_mul, Nat.reduceAdd])
    | ((first | (with_reducible apply WL_op; intro nx hnx) | with_reducible refine Ev_out ?_ | (with_reducible refine pfresh_k hnm fun nm hnm => ?_; (try simp only [fmb] at hnm)) | (with_reducible refine pborn_im ?_; simp only [elemsOf, nl, List.map_cons, List.map_nil, Nat.reduceEqDiff, ↓reduceIte, List.take_succ_cons, List.take_zero, List.range_succ, List.range_zero, List.nil_append, List.cons_append, List.map_append, List.drop_succ_cons, List.drop_zero, Nat.reduceMul, Nat.zero_mul, Nat.one_mul, Nat.reduceAdd])); try (simp (maxSteps := 2000000) (disch := omega) only [evb, evd, eve, constPV, seqK, blockK, scopeK, pbound, pelems, PV.mem?, PV.one, PV.cells, peqs, peq1, pkeys, pkeyt, List.set, Value.cells, ↓popG_eq, ↓pop.eq_1, ↓List.getElem?_map, ↓List.getElem?_cons_zero, ↓List.getElem?_cons_succ, Value.oneCell', Nat.reduceAdd, Nat.reduceMul, Nat.reduceSub, Nat.reduceLeDiff, Nat.reduceEqDiff, ↓reduceIte, ne_eq, reduceCtorEq, forall_const, exists_and_left, exists_eq_left', eq_self, Nat.reduceLT, Int.reduceLT, Int.reduceLE, Int.reduceToNat, Int.reduceAdd, Int.reduceSub, Int.reduceNeg, hnm, Tryd.tf0, Tryd.tf1, Tryd.tf3, Tryd.tf4, Tryd.tf5, Tryd.tf9, Tryd.tf22, Tryd.tf23, Tryd.tf27, Tryd.tf37, Tryd.tf40, Tryd.tf60, Tryd.tf77, Tryd.call16, Tryd.call20, Tryd.call22, Tryd.call25, Tryd.call27, Tryd.call46, Tryd.call47]); repeat (refine And.intro (by omega) ?_))
    | ((with_reducible first | apply WL_nil | apply W_label | apply W_skip | apply W_exit | apply W_ret); try simp only [seqK, blockK, scopeK, ↓reduceIte, Nat.reduceEqDiff])
    | (with_reducible apply pguard_intro <;> (intro hc; (try simp only [hcb, reduceCtorEq, forall_const, ne_eq] at hc); first | (exfalso; omega) | (exfalso; exact hc trivial) | refine Ev_in ?_))
    | (with_reducible apply W_cond_k; intro _ _ ea eb; (simp only [condK, cob, opnd, constPV, Nat.reduceEqDiff, Nat.reduceLT, ↓reduceIte, hcb, reduceCtorEq, forall_const, ne_eq]); subst ea eb; first | (refine ⟨fun hc => ?_, fun hc => ?_⟩ <;> first | (exfalso; omega) | (exfalso; exact hc trivial) | skip) | skip)
    | (with_reducible apply hnx; clear hnx nx)
    | (with_reducible refine And.intro (by omega) ?_)
    | (with_reducible refine And.intro ?_ ?_)
    | (with_reducible refine pcall_k (c1) ?_; rintro _ _ ⟨rfl, rfl⟩ -; refine Ev_in ?_)
    | (with_reducible refine pcall_k (c2) ?_; rintro _ _ ⟨rfl, rfl⟩ -; refine Ev_in ?_)
    | (with_reducible refine pcall_k (c3) ?_; rintro _ _ ⟨rfl, rfl⟩ -; refine Ev_in ?_)
    | (with_reducible refine pcall_k (c4) ?_; rintro _ _ ⟨rfl, rfl⟩ -; refine Ev_in ?_)
    | (with_reducible refine pcall_k (c5) ?_; rintro _ _ ⟨rfl, rfl⟩ -; refine Ev_in ?_)
    | (with_reducible refine pcall_k (c6) ?_; rintro _ _ ⟨rfl, rfl⟩ -; refine Ev_in ?_)
    | (with_reducible refine pcall_k (c7) ?_; rintro _ _ ⟨rfl, rfl⟩ -; refine Ev_in ?_)
    | (with_reducible refine pcall_k (c8) ?_; rintro _ _ ⟨rfl, rfl⟩ -; refine Ev_in ?_)
    | (with_reducible refine pcall_k (c9) ?_; rintro _ _ ⟨rfl, rfl⟩ -; refine Ev_in ?_)
    | (with_reducible refine pcall_k (d1) ?_; rintro _ _ ⟨rfl, rfl⟩ -; refine Ev_in ?_)
    | (with_reducible refine pcall_k (d2) ?_; rintro _ _ ⟨rfl, rfl⟩ -; refine Ev_in ?_)
    | (with_reducible refine pcall_k (d3) ?_; rintro _ _ ⟨rfl, rfl⟩ -; refine Ev_in ?_)
    | (with_reducible refine pcall_k (d4) ?_; rintro _ _ ⟨rfl, rfl⟩ -; refine Ev_in ?_)
    | (with_reducible refine pcall_k (d5) ?_; rintro _ _ ⟨rfl, rfl⟩ -; refine Ev_in ?_)
    | (with_reducible refine pcall_k (d6) ?_; rintro _ _ ⟨rfl, rfl⟩ -; refine Ev_in ?_)
    | (clear hnx nx; with_reducible apply hnx; clear hnx nx)
    | (clear hnx nx; clear hnx nx; with_reducible apply hnx; clear hnx nx))
  all_goals first | exact absurd trivial hc | contradiction | exact fun h => False.elim h | (exfalso; omega) | (exfalso; have hc := of_decide_eq_false hc; omega) | (exfalso; simp only [Bool.not_false, Bool.not_true, decide_eq_true_eq, decide_eq_false_iff_not] at *; omega) | skip
  all_goals
    refine hfin _ _ (Fin_ret1 rfl (Sub_nil _) ?_); simp only [List.getD_cons_zero, List.getD_cons_succ, fr_getD_cons, fr_getD_nil, Nat.reduceEqDiff, Nat.reduceLT, ↓reduceIte]
    exact ⟨by first | rfl | trivial, by trivial⟩
end Go.PM

namespace Go.PM
open Go.Proofs
attribute [local irreducible] W PCalls pcall pcallI WL
theorem valid_lens {a : List Ltr} (h : validF a = true) : ∀ x ∈ a, 1 ≤ x.text.length ∧ x.text.length ≤ 4 := by
  intro x hx
  obtain ⟨j, hj, rfl⟩ := List.mem_iff_getElem.1 hx
  have := valid_text h hj
  exact ⟨List.length_pos_iff.2 this.1, this.2⟩
theorem fit_noA {f : Font} {s : List UInt8} {bold : Bool} {most : Int} : fitF [] f s bold most = [] := by
  unfold fitF
  rw [show validF [] = false from rfl]
  rfl
set_option maxRecDepth 100000
set_option maxHeartbeats 8000000
theorem law4 (G : Globs) (t : TypeId) (hG : G 1 = .gtab t powC) (l m k : List Int) (how most : Int) (hl : okI l) (hm : okI m) (hk : okI k) (hh : i64 how) (hmo : i64 most) :
    PCalls Tryd.prog G 4 [wP l, wP m, wP k, pint .i64 how, pint .i64 most] [] (fun res H => res = pbool true ∧ H = []) := by
  have hv := letters_valid l
  have hA := valid_HA hv
  have hn := lettersF_len l
  have hx := valid_lens hv
  have c1 := letters_c G l hl
  have c2 := font_f G (lettersF l) m (by omega) hx hm
  have c3 := rstring_c G (lettersF l) k (by omega) hx hk
  have hsl := strF_len hx k
  generalize lettersF l = a at *
  have hfo := fontF_ok a m
  have hfH := ok_HF hfo
  generalize fontF a m = f at *
  generalize strF a k = s at *
  have c4 := spo_f G f how hfo hh
  have hsb := arF_bound how (most := 12) (by omega)
  have hsH := spo_HF hfo (arF how 12) hsb
  generalize spoF f (arF how 12) = g at *
  have c5 := around_c G most 200 (by omega) hmo (by omega)
  have har := arF_bound most (most := 200) (by omega)
  generalize arF most 200 = ar at *
  have c9 := lives_c G t hG
  have c8 : PCalls Tryd.prog G 25 [.val (.slice none 0 0), foP f, .val (.string ⟨#[49]⟩), .val (.bool false), .val (.int .i64 5000)] [] _ := PCalls.nil1 (fit_c G [] f [49] false 5000 ⟨by decide, by simp⟩ hfH (by decide) (by decide))
  rw [fit_noA] at c8
  (refine PCalls_f Tryd.func4 rfl Tryd.ntmps4 Tryd.results4 (by simp) fun fin hfin => ?_; have hnm : True := trivial; simp (maxSteps := 2000000) (disch := omega) only [evb, evd, eve, constPV, seqK, blockK, scopeK, pbound, pelems, PV.mem?, PV.one, PV.cells, peqs, peq1, pkeys, pkeyt, List.set, Value.cells, ↓popG_eq, ↓pop.eq_1, ↓List.getElem?_map, ↓List.getElem?_cons_zero, ↓List.getElem?_cons_succ, Value.oneCell', Nat.reduceAdd, Nat.reduceMul, Nat.reduceSub, Nat.reduceLeDiff, Nat.reduceEqDiff, ↓reduceIte, ne_eq, reduceCtorEq, forall_const, exists_and_left, exists_eq_left', eq_self, Nat.reduceLT, Int.reduceLT, Int.reduceLE, Int.reduceToNat, Int.reduceAdd, Int.reduceSub, Int.reduceNeg, hnm, Tryd.tf0, Tryd.tf2, Tryd.tf3, Tryd.tf4, Tryd.tf5, Tryd.tf9, Tryd.tf22, Tryd.tf23, Tryd.tf27, Tryd.tf30, Tryd.tf60, Tryd.call10, Tryd.call11, Tryd.call12, Tryd.call14, Tryd.call23, Tryd.call24, Tryd.call25, Tryd.call26])
  repeat' (first
    | (with_reducible apply W_seq_k; intro nx hnx)
    | (with_reducible first | apply W_block | apply W_scope)
    | (with_reducible refine W_prune 261151 ?_; simp only [prb, Nat.reducePow, Nat.reduceDiv, Nat.reduceMod, Nat.reduceBEq]; first | (with_reducible apply W_region_l) | with_reducible refine W_region_draw (id := 3) 2 (.op 0 true (.op 1 true (.op 2 true (.op 3 true (.op 4 false (.op 5 true (.done))))))) (by kernel_rfl) ?_ | with_reducible refine W_region_draw (id := 12) 3 (.op 0 true (.op 1 true (.op 2 true (.op 3 true (.op 4 true (.op 5 true (.op 6 true (.op 7 true (.op 8 true (.op 9 true (.op 10 true (.op 11 true (.op 12 true (.op 14 true (.op 15 true (.op 16 true (.op 17 true (.op 18 true (.op 19 true (.op 20 true (.op 21 true (.op 22 true (.op 23 true (.op 24 true (.op 25 true (.op 26 true (.op 13 true (.op 27 false (.op 28 true (.done)))))))))))))))))))))))))))))) (by kernel_rfl) ?_)
    | (with_reducible refine WL_born (by simp) rfl (by simp) ?_; simp only [elemsOf, nl, List.map_cons, List.map_nil, Nat.reduceEqDiff, ↓reduceIte, List.take_succ_cons, List.take_zero, List.range_succ, List.range_zero, List.nil_append, List.cons_append, List.map_append, List.drop_succ_cons, List.drop_zero, Nat.reduceMul, Nat.zero_mul, Nat.one_mul, Nat.reduceAdd])
    | (with_reducible refine WL_bornH (by simp) (by simp) ?_ ?_ ?_; (· simp [frz, frz1, hnm]); (· simp [frz1, hnm, PV.one, Value.oneCell']); simp only [elemsOf, nl, List.map_cons, List.map_nil, Nat.reduceEqDiff, ↓reduceIte, List.take_succ_cons, List.take_zero, List.range_succ, List.range_zero, List.nil_append, List.cons_append, List.map_append, List.drop_succ_cons, List.drop_zero, Nat.reduceMul, Nat.zero_mul, Nat.one_mul, Nat.reduceAdd])
    | ((first | (with_reducible apply WL_op; intro nx hnx) | with_reducible refine Ev_out ?_ | (with_reducible apply popsD_op; intro nx hnx) | (with_reducible refine popsD_alt ?_ ?_; intro nx hnx) | (with_reducible refine pfresh_k hnm fun nm hnm => ?_; (try simp only [fmb] at hnm)) | (with_reducible refine pborn_im ?_; simp only [elemsOf, nl, List.map_cons, List.map_nil, Nat.reduceEqDiff, ↓reduceIte, List.take_succ_cons, List.take_zero, List.range_succ, List.range_zero, List.nil_append, List.cons_append, List.map_append, List.drop_succ_cons, List.drop_zero, Nat.reduceMul, Nat.zero_mul, Nat.one_mul, Nat.reduceAdd]) | (with_reducible refine pmaybe_k ?_; intro bn hbn)); try (simp (maxSteps := 2000000) (disch := omega) only [evb, evd, eve, constPV, seqK, blockK, scopeK, pbound, pelems, PV.mem?, PV.one, PV.cells, peqs, peq1, pkeys, pkeyt, List.set, Value.cells, ↓popG_eq, ↓pop.eq_1, ↓List.getElem?_map, ↓List.getElem?_cons_zero, ↓List.getElem?_cons_succ, Value.oneCell', Nat.reduceAdd, Nat.reduceMul, Nat.reduceSub, Nat.reduceLeDiff, Nat.reduceEqDiff, ↓reduceIte, ne_eq, reduceCtorEq, forall_const, exists_and_left, exists_eq_left', eq_self, Nat.reduceLT, Int.reduceLT, Int.reduceLE, Int.reduceToNat, Int.reduceAdd, Int.reduceSub, Int.reduceNeg, hnm, Tryd.tf0, Tryd.tf2, Tryd.tf3, Tryd.tf4, Tryd.tf5, Tryd.tf9, Tryd.tf22, Tryd.tf23, Tryd.tf27, Tryd.tf30, Tryd.tf60, Tryd.call10, Tryd.call11, Tryd.call12, Tryd.call14, Tryd.call23, Tryd.call24, Tryd.call25, Tryd.call26]); repeat (refine And.intro (by omega) ?_))
    | ((with_reducible first | apply WL_nil | apply W_label | apply W_skip | apply W_exit | apply W_ret | apply popsD_done); try simp only [seqK, blockK, scopeK, ↓reduceIte, Nat.reduceEqDiff])
    | with_reducible exact popsD_stop
    | (with_reducible apply pguard_intro <;> (intro hc; (try simp only [hcb, reduceCtorEq, forall_const, ne_eq] at hc); first | (exfalso; omega) | (exfalso; exact hc trivial) | refine Ev_in ?_))
    | (with_reducible apply W_cond_k; intro _ _ ea eb; (simp only [condK, cob, opnd, constPV, Nat.reduceEqDiff, Nat.reduceLT, ↓reduceIte, hcb, reduceCtorEq, forall_const, ne_eq]); subst ea eb; first | (refine ⟨fun hc => ?_, fun hc => ?_⟩ <;> first | (exfalso; omega) | (exfalso; exact hc trivial) | skip) | skip)
    | (with_reducible apply hnx; clear hnx nx)
    | (with_reducible refine And.intro (by omega) ?_)
    | (with_reducible refine And.intro ?_ ?_)
    | (with_reducible refine pcall_k (c1) ?_; rintro _ _ ⟨rfl, rfl⟩ -; refine Ev_in ?_)
    | (with_reducible refine pcall_k (c2) ?_; rintro _ _ ⟨rfl, rfl⟩ -; refine Ev_in ?_)
    | (with_reducible refine pcall_k (c3) ?_; rintro _ _ ⟨rfl, rfl⟩ -; refine Ev_in ?_)
    | (with_reducible refine pcall_k (c4) ?_; rintro _ _ ⟨rfl, rfl⟩ -; refine Ev_in ?_)
    | (with_reducible refine pcall_k (c5) ?_; rintro _ _ ⟨rfl, rfl⟩ -; refine Ev_in ?_)
    | (clear hnx nx; with_reducible apply hnx; clear hnx nx)
    | (clear hnx nx; clear hnx nx; with_reducible apply hnx; clear hnx nx))
  generalize nm = mn at *
  obtain ⟨F, hF⟩ : ∃ F, F = [f, g] := ⟨_, rfl⟩
  have hFl : F.length = 2 := by rw [hF]; rfl
  have hFH : ∀ x ∈ F, HF x := by
    rw [hF]
    intro x hx
    simp only [List.mem_cons, List.not_mem_nil, or_false] at hx
    rcases hx with rfl | rfl <;> assumption
  obtain ⟨L, hL⟩ : ∃ L, L = [most, ar, 0, -1, 1099511627776] := ⟨_, rfl⟩
  have hLl : L.length = 5 := by rw [hL]; rfl
  have hLI : ∀ x ∈ L, i64 x := by
    rw [hL]
    intro x hx
    simp only [List.mem_cons, List.not_mem_nil, or_false] at hx
    rcases hx with rfl | rfl | rfl | rfl | rfl
    · exact hmo
    · exact ⟨by omega, by omega⟩
    · exact ⟨by omega, by omega⟩
    · exact ⟨by omega, by omega⟩
    · exact ⟨by omega, by omega⟩
  have eL : [pint .i64 most, pint .i64 ar, PV.val (.int .i64 0), PV.val (.int .i64 (-1)), PV.val (.int .i64 1099511627776)] = L.map (pint .i64) := by rw [hL]; rfl
  have eF : [foP f, foP g] = F.map foP := by rw [hF]; rfl
  rw [eL, eF]
  clear eL eF hL hF
  refine W_loop_k (fun z τ => ∃ i : Nat, i ≤ 2 ∧ z = 2 - i ∧ τ = ⟨fr 78 [(16, pn i), (15, wP L), (14, pstr s), (13, .list 5 (F.map foP)), (12, .ptr mn 0), (11, ltsP a)], [(mn, foC f)]⟩) 2
    ⟨fr 78 [(16, pn 0), (15, wP L), (14, pstr s), (13, .list 5 (F.map foP)), (12, .ptr mn 0), (11, ltsP a)], [(mn, foC f)]⟩ (by exact Wk_fr (by simp only [wkb, Nat.reduceEqDiff, Nat.reduceLT, ↓reduceIte, pn]) ⟨by simp, by simp [names]⟩) ⟨0, by omega, by omega, rfl⟩ ?_
  rintro z τ ⟨i, hi, rfl, rfl⟩ lp hlp
  by_cases hil : i < 2
  · repeat' (first
    | (with_reducible apply W_seq_k; intro nx hnx)
    | (with_reducible first | apply W_block | apply W_scope)
    | (with_reducible refine W_prune 261151 ?_; simp only [prb, Nat.reducePow, Nat.reduceDiv, Nat.reduceMod, Nat.reduceBEq]; first | (with_reducible apply W_region_l) | with_reducible refine W_region_draw (id := 3) 2 (.op 0 true (.op 1 true (.op 2 true (.op 3 true (.op 4 false (.op 5 true (.done))))))) (by kernel_rfl) ?_ | with_reducible refine W_region_draw (id := 12) 3 (.op 0 true (.op 1 true (.op 2 true (.op 3 true (.op 4 true (.op 5 true (.op 6 true (.op 7 true (.op 8 true (.op 9 true (.op 10 true (.op 11 true (.op 12 true (.op 14 true (.op 15 true (.op 16 true (.op 17 true (.op 18 true (.op 19 true (.op 20 true (.op 21 true (.op 22 true (.op 23 true (.op 24 true (.op 25 true (.op 26 true (.op 13 true (.op 27 false (.op 28 true (.done)))))))))))))))))))))))))))))) (by kernel_rfl) ?_)
    | ((first | (with_reducible apply WL_op; intro nx hnx) | with_reducible refine Ev_out ?_ | (with_reducible apply popsD_op; intro nx hnx) | (with_reducible refine popsD_alt ?_ ?_; intro nx hnx) | (with_reducible refine pfresh_k hnm fun nm hnm => ?_; (try simp only [fmb] at hnm)) | (with_reducible refine pborn_mu hnm fun nm hnm => ?_; (try simp only [fmb] at hnm)) | (with_reducible refine pmaybe_k ?_; intro bn hbn)); try (simp (maxSteps := 2000000) (disch := omega) only [evb, evd, eve, constPV, seqK, blockK, scopeK, pbound, pelems, PV.mem?, PV.one, PV.cells, peqs, peq1, pkeys, pkeyt, List.set, Value.cells, ↓popG_eq, ↓pop.eq_1, ↓List.getElem?_map, ↓List.getElem?_cons_zero, ↓List.getElem?_cons_succ, Value.oneCell', Nat.reduceAdd, Nat.reduceMul, Nat.reduceSub, Nat.reduceLeDiff, Nat.reduceEqDiff, ↓reduceIte, ne_eq, reduceCtorEq, forall_const, exists_and_left, exists_eq_left', eq_self, Nat.reduceLT, Int.reduceLT, Int.reduceLE, Int.reduceToNat, Int.reduceAdd, Int.reduceSub, Int.reduceNeg, hnm, Tryd.tf0, Tryd.tf2, Tryd.tf3, Tryd.tf4, Tryd.tf5, Tryd.tf9, Tryd.tf22, Tryd.tf23, Tryd.tf27, Tryd.tf30, Tryd.tf60, Tryd.call10, Tryd.call11, Tryd.call12, Tryd.call14, Tryd.call23, Tryd.call24, Tryd.call25, Tryd.call26]); repeat (refine And.intro (by omega) ?_))
    | ((with_reducible first | apply WL_nil | apply W_label | apply W_skip | apply W_exit | apply W_ret | apply popsD_done); try simp only [seqK, blockK, scopeK, ↓reduceIte, Nat.reduceEqDiff])
    | with_reducible exact popsD_stop
    | (with_reducible apply pguard_intro <;> (intro hc; (try simp only [hcb, reduceCtorEq, forall_const, ne_eq] at hc); first | (exfalso; omega) | (exfalso; exact hc trivial) | refine Ev_in ?_))
    | (with_reducible apply W_cond_k; intro _ _ ea eb; (simp only [condK, cob, opnd, constPV, Nat.reduceEqDiff, Nat.reduceLT, ↓reduceIte, hcb, reduceCtorEq, forall_const, ne_eq]); subst ea eb; first | (refine ⟨fun hc => ?_, fun hc => ?_⟩ <;> first | (exfalso; omega) | (exfalso; exact hc trivial) | skip) | skip)
    | (with_reducible apply hnx; clear hnx nx)
    | (with_reducible refine And.intro (by omega) ?_)
    | (with_reducible refine And.intro ?_ ?_)
    | (clear hnx nx; with_reducible apply hnx; clear hnx nx)
    | (clear hnx nx; clear hnx nx; with_reducible apply hnx; clear hnx nx))
    all_goals first | exact absurd trivial hc | contradiction | exact fun h => False.elim h | (exfalso; omega) | (exfalso; have hc := of_decide_eq_false hc; omega) | (exfalso; simp only [Bool.not_false, Bool.not_true, decide_eq_true_eq, decide_eq_false_iff_not] at *; omega) | skip
    refine W_loop_k (fun z τ => ∃ j : Nat, j ≤ 5 ∧ z = 5 - j ∧ τ = ⟨fr 78 [(17, pn j), (16, pn i), (15, wP L), (14, pstr s), (13, .list 5 (F.map foP)), (12, .ptr mn 0), (11, ltsP a)], [(mn, foC f)]⟩) 5
      ⟨fr 78 [(17, pn 0), (16, pn i), (15, wP L), (14, pstr s), (13, .list 5 (F.map foP)), (12, .ptr mn 0), (11, ltsP a)], [(mn, foC f)]⟩ (by exact Wk_fr (by simp only [wkb, Nat.reduceEqDiff, Nat.reduceLT, ↓reduceIte, pn]) ⟨by simp, by simp [names]⟩) ⟨0, by omega, by omega, rfl⟩ ?_
    rintro z τ ⟨j, hj, rfl, rfl⟩ lp2 hlp2
    by_cases hjl : j < 5
    · have hgi : F[i]? = some F[i] := List.getElem?_eq_getElem (by omega)
      have hgj : L[j]? = some L[j] := List.getElem?_eq_getElem (by omega)
      have d1 := fun b => fit_c G a F[i] s b L[j] hA (hFH _ (List.getElem_mem _)) (by omega) (hLI _ (List.getElem_mem _))
      have d2 := fun b => rfit_c G a F[i] s b L[j] hA (hFH _ (List.getElem_mem _)) (by omega) (hLI _ (List.getElem_mem _))
      generalize (fun b => fitF a F[i] s b L[j]) = ft at *
      repeat' (first
    | (with_reducible apply W_seq_k; intro nx hnx)
    | (with_reducible first | apply W_block | apply W_scope)
    | (with_reducible refine W_prune 261151 ?_; simp only [prb, Nat.reducePow, Nat.reduceDiv, Nat.reduceMod, Nat.reduceBEq]; first | (with_reducible apply W_region_l) | with_reducible refine W_region_draw (id := 3) 2 (.op 0 true (.op 1 true (.op 2 true (.op 3 true (.op 4 false (.op 5 true (.done))))))) (by kernel_rfl) ?_ | with_reducible refine W_region_draw (id := 12) 3 (.op 0 true (.op 1 true (.op 2 true (.op 3 true (.op 4 true (.op 5 true (.op 6 true (.op 7 true (.op 8 true (.op 9 true (.op 10 true (.op 11 true (.op 12 true (.op 14 true (.op 15 true (.op 16 true (.op 17 true (.op 18 true (.op 19 true (.op 20 true (.op 21 true (.op 22 true (.op 23 true (.op 24 true (.op 25 true (.op 26 true (.op 13 true (.op 27 false (.op 28 true (.done)))))))))))))))))))))))))))))) (by kernel_rfl) ?_)
    | ((first | (with_reducible apply WL_op; intro nx hnx) | with_reducible refine Ev_out ?_ | (with_reducible apply popsD_op; intro nx hnx) | (with_reducible refine popsD_alt ?_ ?_; intro nx hnx) | (with_reducible refine pfresh_k hnm fun nm hnm => ?_; (try simp only [fmb] at hnm)) | (with_reducible refine pborn_mu hnm fun nm hnm => ?_; (try simp only [fmb] at hnm)) | (with_reducible refine pmaybe_k ?_; intro bn hbn)); try (simp (maxSteps := 2000000) (disch := omega) only [evb, evd, eve, constPV, seqK, blockK, scopeK, pbound, pelems, PV.mem?, PV.one, PV.cells, peqs, peq1, pkeys, pkeyt, List.set, Value.cells, ↓popG_eq, ↓pop.eq_1, ↓List.getElem?_map, ↓List.getElem?_cons_zero, ↓List.getElem?_cons_succ, Value.oneCell', Nat.reduceAdd, Nat.reduceMul, Nat.reduceSub, Nat.reduceLeDiff, Nat.reduceEqDiff, ↓reduceIte, ne_eq, reduceCtorEq, forall_const, exists_and_left, exists_eq_left', eq_self, Nat.reduceLT, Int.reduceLT, Int.reduceLE, Int.reduceToNat, Int.reduceAdd, Int.reduceSub, Int.reduceNeg, hnm, Tryd.tf0, Tryd.tf2, Tryd.tf3, Tryd.tf4, Tryd.tf5, Tryd.tf9, Tryd.tf22, Tryd.tf23, Tryd.tf27, Tryd.tf30, Tryd.tf60, Tryd.call10, Tryd.call11, Tryd.call12, Tryd.call14, Tryd.call23, Tryd.call24, Tryd.call25, Tryd.call26, hgi, hgj, hFl, hLl]); repeat (refine And.intro (by omega) ?_))
    | ((with_reducible first | apply WL_nil | apply W_label | apply W_skip | apply W_exit | apply W_ret | apply popsD_done); try simp only [seqK, blockK, scopeK, ↓reduceIte, Nat.reduceEqDiff])
    | with_reducible exact popsD_stop
    | (with_reducible apply pguard_intro <;> (intro hc; (try simp only [hcb, reduceCtorEq, forall_const, ne_eq] at hc); first | (exfalso; omega) | (exfalso; exact hc trivial) | refine Ev_in ?_))
    | (with_reducible apply W_cond_k; intro _ _ ea eb; (simp only [condK, cob, opnd, constPV, Nat.reduceEqDiff, Nat.reduceLT, ↓reduceIte, hcb, reduceCtorEq, forall_const, ne_eq]); subst ea eb; first | (refine ⟨fun hc => ?_, fun hc => ?_⟩ <;> first | (exfalso; omega) | (exfalso; exact hc trivial) | skip) | skip)
    | (with_reducible apply hnx; clear hnx nx)
    | (with_reducible refine And.intro (by omega) ?_)
    | (with_reducible refine And.intro ?_ ?_)
    | (with_reducible refine pcall_k (d1 _) ?_; rintro _ _ ⟨rfl, rfl⟩ -; refine Ev_in ?_)
    | (with_reducible refine pcall_k (d2 _) ?_; rintro _ _ ⟨rfl, rfl⟩ -; refine Ev_in ?_)
    | (clear hnx nx; with_reducible apply hnx; clear hnx nx)
    | (clear hnx nx; clear hnx nx; with_reducible apply hnx; clear hnx nx))
      all_goals first | exact absurd trivial hc | contradiction | exact fun h => False.elim h | (exfalso; omega) | (exfalso; have hc := of_decide_eq_false hc; omega) | (exfalso; simp only [Bool.not_false, Bool.not_true, decide_eq_true_eq, decide_eq_false_iff_not] at *; omega) | skip
      refine hlp2 _ (5 - (j + 1)) _ (by omega) ?_ ⟨j + 1, by omega, rfl, rfl⟩
      exact Wk_fr (by simp only [wkb, Nat.reduceEqDiff, Nat.reduceLT, ↓reduceIte, pn]) ⟨by simp, by simp [names]⟩
    · have hj2 : j = 5 := by omega
      subst hj2
      repeat' (first
    | (with_reducible apply W_seq_k; intro nx hnx)
    | (with_reducible first | apply W_block | apply W_scope)
    | (with_reducible refine W_prune 261151 ?_; simp only [prb, Nat.reducePow, Nat.reduceDiv, Nat.reduceMod, Nat.reduceBEq]; first | (with_reducible apply W_region_l) | with_reducible refine W_region_draw (id := 3) 2 (.op 0 true (.op 1 true (.op 2 true (.op 3 true (.op 4 false (.op 5 true (.done))))))) (by kernel_rfl) ?_ | with_reducible refine W_region_draw (id := 12) 3 (.op 0 true (.op 1 true (.op 2 true (.op 3 true (.op 4 true (.op 5 true (.op 6 true (.op 7 true (.op 8 true (.op 9 true (.op 10 true (.op 11 true (.op 12 true (.op 14 true (.op 15 true (.op 16 true (.op 17 true (.op 18 true (.op 19 true (.op 20 true (.op 21 true (.op 22 true (.op 23 true (.op 24 true (.op 25 true (.op 26 true (.op 13 true (.op 27 false (.op 28 true (.done)))))))))))))))))))))))))))))) (by kernel_rfl) ?_)
    | ((first | (with_reducible apply WL_op; intro nx hnx) | with_reducible refine Ev_out ?_ | (with_reducible apply popsD_op; intro nx hnx) | (with_reducible refine popsD_alt ?_ ?_; intro nx hnx) | (with_reducible refine pfresh_k hnm fun nm hnm => ?_; (try simp only [fmb] at hnm)) | (with_reducible refine pborn_mu hnm fun nm hnm => ?_; (try simp only [fmb] at hnm)) | (with_reducible refine pmaybe_k ?_; intro bn hbn)); try (simp (maxSteps := 2000000) (disch := omega) only [evb, evd, eve, constPV, seqK, blockK, scopeK, pbound, pelems, PV.mem?, PV.one, PV.cells, peqs, peq1, pkeys, pkeyt, List.set, Value.cells, ↓popG_eq, ↓pop.eq_1, ↓List.getElem?_map, ↓List.getElem?_cons_zero, ↓List.getElem?_cons_succ, Value.oneCell', Nat.reduceAdd, Nat.reduceMul, Nat.reduceSub, Nat.reduceLeDiff, Nat.reduceEqDiff, ↓reduceIte, ne_eq, reduceCtorEq, forall_const, exists_and_left, exists_eq_left', eq_self, Nat.reduceLT, Int.reduceLT, Int.reduceLE, Int.reduceToNat, Int.reduceAdd, Int.reduceSub, Int.reduceNeg, hnm, Tryd.tf0, Tryd.tf2, Tryd.tf3, Tryd.tf4, Tryd.tf5, Tryd.tf9, Tryd.tf22, Tryd.tf23, Tryd.tf27, Tryd.tf30, Tryd.tf60, Tryd.call10, Tryd.call11, Tryd.call12, Tryd.call14, Tryd.call23, Tryd.call24, Tryd.call25, Tryd.call26]); repeat (refine And.intro (by omega) ?_))
    | ((with_reducible first | apply WL_nil | apply W_label | apply W_skip | apply W_exit | apply W_ret | apply popsD_done); try simp only [seqK, blockK, scopeK, ↓reduceIte, Nat.reduceEqDiff])
    | with_reducible exact popsD_stop
    | (with_reducible apply pguard_intro <;> (intro hc; (try simp only [hcb, reduceCtorEq, forall_const, ne_eq] at hc); first | (exfalso; omega) | (exfalso; exact hc trivial) | refine Ev_in ?_))
    | (with_reducible apply W_cond_k; intro _ _ ea eb; (simp only [condK, cob, opnd, constPV, Nat.reduceEqDiff, Nat.reduceLT, ↓reduceIte, hcb, reduceCtorEq, forall_const, ne_eq]); subst ea eb; first | (refine ⟨fun hc => ?_, fun hc => ?_⟩ <;> first | (exfalso; omega) | (exfalso; exact hc trivial) | skip) | skip)
    | (with_reducible apply hnx; clear hnx nx)
    | (with_reducible refine And.intro (by omega) ?_)
    | (with_reducible refine And.intro ?_ ?_)
    | (clear hnx nx; with_reducible apply hnx; clear hnx nx)
    | (clear hnx nx; clear hnx nx; with_reducible apply hnx; clear hnx nx))
      all_goals first | exact absurd trivial hc | contradiction | exact fun h => False.elim h | (exfalso; omega) | (exfalso; have hc := of_decide_eq_false hc; omega) | (exfalso; simp only [Bool.not_false, Bool.not_true, decide_eq_true_eq, decide_eq_false_iff_not] at *; omega) | skip
      refine hlp _ (2 - (i + 1)) _ (by omega) ?_ ⟨i + 1, by omega, rfl, rfl⟩
      exact Wk_fr (by simp only [wkb, Nat.reduceEqDiff, Nat.reduceLT, ↓reduceIte, pn]) ⟨by simp, by simp [names]⟩
  · have hi2 : i = 2 := by omega
    subst hi2
    repeat' (first
    | (with_reducible apply W_seq_k; intro nx hnx)
    | (with_reducible first | apply W_block | apply W_scope)
    | (with_reducible refine W_prune 261151 ?_; simp only [prb, Nat.reducePow, Nat.reduceDiv, Nat.reduceMod, Nat.reduceBEq]; first | (with_reducible apply W_region_l) | with_reducible refine W_region_draw (id := 3) 2 (.op 0 true (.op 1 true (.op 2 true (.op 3 true (.op 4 false (.op 5 true (.done))))))) (by kernel_rfl) ?_ | with_reducible refine W_region_draw (id := 12) 3 (.op 0 true (.op 1 true (.op 2 true (.op 3 true (.op 4 true (.op 5 true (.op 6 true (.op 7 true (.op 8 true (.op 9 true (.op 10 true (.op 11 true (.op 12 true (.op 14 true (.op 15 true (.op 16 true (.op 17 true (.op 18 true (.op 19 true (.op 20 true (.op 21 true (.op 22 true (.op 23 true (.op 24 true (.op 25 true (.op 26 true (.op 13 true (.op 27 false (.op 28 true (.done)))))))))))))))))))))))))))))) (by kernel_rfl) ?_)
    | ((first | (with_reducible apply WL_op; intro nx hnx) | with_reducible refine Ev_out ?_ | (with_reducible apply popsD_op; intro nx hnx) | (with_reducible refine popsD_alt ?_ ?_; intro nx hnx) | (with_reducible refine pfresh_k hnm fun nm hnm => ?_; (try simp only [fmb] at hnm)) | (with_reducible refine pborn_mu hnm fun nm hnm => ?_; (try simp only [fmb] at hnm)) | (with_reducible refine pmaybe_k ?_; intro bn hbn)); try (simp (maxSteps := 2000000) (disch := omega) only [evb, evd, eve, constPV, seqK, blockK, scopeK, pbound, pelems, PV.mem?, PV.one, PV.cells, peqs, peq1, pkeys, pkeyt, List.set, Value.cells, ↓popG_eq, ↓pop.eq_1, ↓List.getElem?_map, ↓List.getElem?_cons_zero, ↓List.getElem?_cons_succ, Value.oneCell', Nat.reduceAdd, Nat.reduceMul, Nat.reduceSub, Nat.reduceLeDiff, Nat.reduceEqDiff, ↓reduceIte, ne_eq, reduceCtorEq, forall_const, exists_and_left, exists_eq_left', eq_self, Nat.reduceLT, Int.reduceLT, Int.reduceLE, Int.reduceToNat, Int.reduceAdd, Int.reduceSub, Int.reduceNeg, hnm, Tryd.tf0, Tryd.tf2, Tryd.tf3, Tryd.tf4, Tryd.tf5, Tryd.tf9, Tryd.tf22, Tryd.tf23, Tryd.tf27, Tryd.tf30, Tryd.tf60, Tryd.call10, Tryd.call11, Tryd.call12, Tryd.call14, Tryd.call23, Tryd.call24, Tryd.call25, Tryd.call26]); repeat (refine And.intro (by omega) ?_))
    | ((with_reducible first | apply WL_nil | apply W_label | apply W_skip | apply W_exit | apply W_ret | apply popsD_done); try simp only [seqK, blockK, scopeK, ↓reduceIte, Nat.reduceEqDiff])
    | with_reducible exact popsD_stop
    | (with_reducible apply pguard_intro <;> (intro hc; (try simp only [hcb, reduceCtorEq, forall_const, ne_eq] at hc); first | (exfalso; omega) | (exfalso; exact hc trivial) | refine Ev_in ?_))
    | (with_reducible apply W_cond_k; intro _ _ ea eb; (simp only [condK, cob, opnd, constPV, Nat.reduceEqDiff, Nat.reduceLT, ↓reduceIte, hcb, reduceCtorEq, forall_const, ne_eq]); subst ea eb; first | (refine ⟨fun hc => ?_, fun hc => ?_⟩ <;> first | (exfalso; omega) | (exfalso; exact hc trivial) | skip) | skip)
    | (with_reducible apply hnx; clear hnx nx)
    | (with_reducible refine And.intro (by omega) ?_)
    | (with_reducible refine And.intro ?_ ?_)
    | (with_reducible refine pcall_k (c8) ?_; rintro _ _ ⟨rfl, rfl⟩ -; refine Ev_in ?_)
    | (with_reducible refine pcall_k (c9) ?_; rintro _ _ ⟨rfl, rfl⟩ -; refine Ev_in ?_)
    | (clear hnx nx; with_reducible apply hnx; clear hnx nx)
    | (clear hnx nx; clear hnx nx; with_reducible apply hnx; clear hnx nx))
    all_goals first | exact absurd trivial hc | contradiction | exact fun h => False.elim h | (exfalso; omega) | (exfalso; have hc := of_decide_eq_false hc; omega) | (exfalso; simp only [Bool.not_false, Bool.not_true, decide_eq_true_eq, decide_eq_false_iff_not] at *; omega) | skip
    (refine hfin _ _ (Fin_ret1 rfl (Sub_nil _) ?_); simp only [List.getD_cons_zero, List.getD_cons_succ, fr_getD_cons, fr_getD_nil, Nat.reduceEqDiff, Nat.reduceLT, ↓reduceIte]; first | trivial | exact ⟨rfl, by trivial⟩ | (simp; done) | (simp; omega))
end Go.PM
