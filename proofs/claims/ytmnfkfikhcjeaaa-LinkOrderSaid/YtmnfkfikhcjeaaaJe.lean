/- Joined texts (Oe No Nq Nu Nv Nw Ny Nz Oa Oi Oj Ok Ob Oc): the machine, the contracts, the laws. Conditions: none but those that each names. -/
import Derived.Test.YtmnfkfikhcjeaaaJd
set_option linter.unusedSimpArgs false
set_option linter.unusedVariables false
namespace Go.PM
open Go.Proofs
/-- After j packets of s have come in at r. S: what s has sent; R: what r has sent. -/
structure Jinv (i0 : Nat) (key : UInt64) (S R : List (List UInt8)) (s r : LE) (j : Nat) (rj : LE) : Prop where
  ord : OrdE (i0 + j) key R S s.got rj
  held : rj.held = []
  got : rj.got = if s.acked = S.length then r.got else max r.got (s.acked + j)
  acked : rj.acked = if j = 0 then r.acked else max r.acked s.got
  owing : rj.owing = if j = 0 ∨ s.acked = S.length then r.owing else true
/-- Nothing has come in yet. -/
theorem Jinv.zero {i0 : Nat} {key : UInt64} {S R : List (List UInt8)} {s r : LE} (hs : OrdE i0 key S R r.got s) (hr : OrdE i0 key R S s.got r) (hh : r.held = []) : Jinv i0 key S R s r 0 r := by
  refine ⟨hr, hh, ?_, by simp, by simp⟩
  have := hs.acked
  split
  · rfl
  · omega
/-- What holds between two rounds: a is first. -/
structure ProI (i n : Nat) (key : UInt64) (S R : List (List UInt8)) (a b : LE) : Prop where
  oa : OrdE i key S R b.got a
  ob : OrdE i key R S a.got b
  ha : a.held = []
  hb : b.held = []
  fresh : a.acked = b.got
  owes : a.owing = true ∨ b.acked = a.got
  db : min n S.length ≤ b.got
  da : min n R.length ≤ a.got
  fin : max S.length R.length < n → b.acked = R.length
/-- What holds between the two halves of a round. -/
structure MidI (i n : Nat) (key : UInt64) (S R : List (List UInt8)) (a b : LE) : Prop where
  oa : OrdE i key S R b.got a
  ob : OrdE i key R S a.got b
  ha : a.held = []
  hb : b.held = []
  seen : b.acked = a.got
  owes : b.owing = true ∨ a.acked = b.got
  db : min (n + 1) S.length ≤ b.got
  da : min n R.length ≤ a.got
end Go.PM

namespace Go.PM
open Go.Proofs
instance decLE : DecidableEq LE := fun a b => decidable_of_iff (a.win = b.win ∧ a.key = b.key ∧ a.wait = b.wait ∧ a.acked = b.acked ∧ a.got = b.got ∧ a.held = b.held ∧ a.owing = b.owing ∧ a.forged = b.forged) (by
  cases a
  cases b
  simp)
theorem WL_nd {P : Program} {G : Globs} {I : List Int} {l0 l : List Oper} {σ : PState} {K : PState → Prop} (h : (names σ.heap).Nodup → WL P G I l0 l σ K) : WL P G I l0 l σ K :=
  fun E hE A a w hs => h hs.nodup E hE A a w hs
theorem lv1 : (sendL (newL 2 9) [97]) = (0, ⟨2, 9, [[97]], 0, 0, [], false, 0⟩) := by decide +kernel
theorem lv2 : (sendL ⟨2, 9, [[97]], 0, 0, [], false, 0⟩ [98]) = (0, ⟨2, 9, [[97], [98]], 0, 0, [], false, 0⟩) := by decide +kernel
theorem lv3 : (sendL ⟨2, 9, [[97], [98]], 0, 0, [], false, 0⟩ [99]) = (0, ⟨2, 9, [[97], [98], [99]], 0, 0, [], false, 0⟩) := by decide +kernel
theorem lv4 : outL ⟨2, 9, [[97], [98], [99]], 0, 0, [], false, 0⟩ = ([sealP 9 1 0 [97], sealP 9 2 0 [98]], ⟨2, 9, [[97], [98], [99]], 0, 0, [], false, 0⟩) := by decide +kernel
theorem lv5 : inL (newL 2 9) (sealP 9 2 0 [98]) = (([], 0), ⟨2, 9, [], 0, 0, [(2, [98])], true, 0⟩) := by decide +kernel
theorem lv6 : inL ⟨2, 9, [], 0, 0, [(2, [98])], true, 0⟩ (sealP 9 1 0 [97]) = (([[97], [98]], 0), ⟨2, 9, [], 0, 2, [], true, 0⟩) := by decide +kernel
theorem lv7 : outL ⟨2, 9, [], 0, 2, [], true, 0⟩ = ([sealP 9 0 2 []], ⟨2, 9, [], 0, 2, [], false, 0⟩) := by decide +kernel
theorem lv8 : inL ⟨2, 9, [[97], [98], [99]], 0, 0, [], false, 0⟩ (sealP 9 0 2 []) = (([], 0), ⟨2, 9, [[99]], 2, 0, [], false, 0⟩) := by decide +kernel
theorem lv9 : outL ⟨2, 9, [[99]], 2, 0, [], false, 0⟩ = ([sealP 9 3 0 [99]], ⟨2, 9, [[99]], 2, 0, [], false, 0⟩) := by decide +kernel
theorem sealP_len (key : UInt64) (q a : Int) (b : List UInt8) (h1 : inR q) (h2 : inR a) (hb : b.length ≤ 100000) : (sealP key q a b).length ≤ 100048 := by
  have := packB_len q a b h1 h2 hb
  have := sealB_len key (packB q a b)
  rw [sealP, List.length_append]
  omega
/-- An end comes back. -/
theorem new_ok (G : Globs) (win : Int) (key : UInt64) (h : 1 ≤ win ∧ win ≤ 16) : PCalls Try.prog G 28 [pint .i64 win, pq key] [] (fun res H => ∃ e, res = .tuple [.ptr e 0, pint .i64 0] ∧ IsEnd e (newL win.toNat key) H) := by
  refine (new_c G win key).mono ?_
  rintro res H (⟨h1, _⟩ | ⟨_, _, h3⟩)
  · exact absurd h h1
  · exact h3
attribute [local irreducible] W PCalls pcall pcallI WL
section
variable {P : Program} {G : Globs} {I : List Int}
/-- A marked row is turned no more. -/
theorem WL_mark {l0 l : List Oper} {K : PState → Prop} {N d d2 : Nat} {L : List (Nat × PV)} {n : Int} {e : TypeId} {len : Nat} {cells : List PV} {H : Heap} (hI : n ∉ I) (hc : len = cells.length)
    (hL : ∀ x ∈ L, frz n cells x.2 = x.2) (hH : ∀ x ∈ H, x.1 ≠ n ∧ ∀ u ∈ x.2.cells, frz1 n cells u = u ∧ u.one = true)
    (h : WL P G I l0 l ⟨fr N ((d, .list 1 cells) :: (d2, .list 1 cells) :: L), H⟩ K) : WL P G I l0 l ⟨fr N ((d, .row n 1 len) :: (d2, .row n 1 len) :: L), (n, ⟨e, false, 1, cells⟩) :: H⟩ K := by
  subst hc
  have hdel : del ((n, (⟨e, false, 1, cells⟩ : PObj)) :: H) n = H := by
    simp only [del, if_true]
  refine WL_x ?_ h
  have h1 := Wx.freeze_f (G := G) (I := I) (N := N) (l := (d, .row n 1 cells.length) :: (d2, .row n 1 cells.length) :: L) (H := (n, ⟨e, false, 1, cells⟩) :: H) n (o := ⟨e, false, 1, cells⟩) hI (by simp only [look, if_true]) (by
    intro x hx u hu
    rw [hdel] at hx
    obtain ⟨h2, h3⟩ := (hH x hx).2 u hu
    rw [h2]
    exact h3)
  have e1 : L.map (fun x => (x.1, frz n cells x.2)) = L := by
    conv => rhs; rw [← List.map_id L]
    exact List.map_congr_left fun x hx => by rw [hL x hx]; rfl
  have e2 : frz n cells (.row n 1 cells.length) = .list 1 cells := by
    simp only [frz, frz1, if_true]
    rw [if_pos ⟨by omega, by omega⟩, elems_all]
  have e3 : frzH n cells ((n, ⟨e, false, 1, cells⟩) :: H) = H := by
    unfold frzH
    rw [hdel]
    conv => rhs; rw [← List.map_id H]
    refine List.map_congr_left fun x hx => ?_
    have h4 : x.2.cells.map (frz1 n cells) = x.2.cells := by
      conv => rhs; rw [← List.map_id x.2.cells]
      exact List.map_congr_left fun u hu => ((hH x hx).2 u hu).1
    rw [h4]
    rfl
  rw [List.map_cons, List.map_cons, e1] at h1
  simp only [e2, e3] at h1
  exact h1
end
theorem isEnd_frz {e n : Int} {s : LE} {H : Heap} (xs : List PV) (hE : IsEnd e s H) (hn : n ∉ names H) : ∀ x ∈ H, x.1 ≠ n ∧ ∀ u ∈ x.2.cells, frz1 n xs u = u ∧ u.one = true := by
  obtain ⟨w, m, rfl⟩ := hE
  simp only [names, List.map_cons, List.map_nil, List.mem_cons, List.not_mem_nil, or_false, not_or] at hn
  exact end_frz hn.1 hn.2.1 hn.2.2
theorem two_frz {n a b : Int} {o : PObj} {sa sb : LE} {Ha Hb : Heap} (xs : List PV) (hEb : IsEnd b sb Hb) (hEa : IsEnd a sa Ha) (nd : (names ((n, o) :: (Hb ++ Ha))).Nodup) : ∀ x ∈ Hb ++ Ha, x.1 ≠ n ∧ ∀ u ∈ x.2.cells, frz1 n xs u = u ∧ u.one = true := by
  have h1 : n ∉ names (Hb ++ Ha) := (List.nodup_cons.1 nd).1
  simp only [names, List.map_append, List.mem_append, not_or] at h1
  intro x hx
  rcases List.mem_append.1 hx with h | h
  · exact isEnd_frz xs hEb h1.1 x h
  · exact isEnd_frz xs hEa h1.2 x h
theorem two_ne {n a b : Int} {o : PObj} {sa sb : LE} {Ha Hb : Heap} (hEb : IsEnd b sb Hb) (hEa : IsEnd a sa Ha) (nd : (names ((n, o) :: (Hb ++ Ha))).Nodup) : (a = n) = False ∧ (b = n) = False := by
  have h1 : n ∉ names (Hb ++ Ha) := (List.nodup_cons.1 nd).1
  simp only [names, List.map_append, List.mem_append, not_or] at h1
  obtain ⟨w, m, rfl⟩ := hEa
  obtain ⟨w2, m2, rfl⟩ := hEb
  exact ⟨eq_false fun e => h1.2 (by simp [e]), eq_false fun e => h1.1 (by simp [e])⟩
/-- Two ends come back. -/
def winA (window : Int) : Nat := 1 + arN window 16
def winB (window : Int) : Nat := 1 + arN (window.tdiv 16) 16
set_option maxRecDepth 100000 in
set_option maxHeartbeats 8000000 in
theorem ends_c (G : Globs) (window : Int) (key : UInt64) (hw : inR window) : PCalls Try.prog G 9 [pint .i64 window, pq key] []
    (fun res H => ∃ (b a : Int) (Hb Ha : Heap), res = .list 1 [.ptr a 0, .ptr b 0] ∧ H = Hb ++ Ha ∧ IsEnd b (newL (winB window) key) Hb ∧ IsEnd a (newL (winA window) key) Ha) := by
  have h1 := arN_lt window 16 (by omega)
  have h2 := arN_lt (window.tdiv 16) 16 (by omega)
  have hq : inR (window.tdiv 16) := by
    obtain ⟨h3, h4⟩ := hw
    constructor
    · rcases Int.le_total 0 window with h | h
      · have := Int.tdiv_nonneg h (show (0 : Int) ≤ 16 by omega)
        omega
      · obtain ⟨w, rfl⟩ : ∃ w : Int, window = -w := ⟨-window, by omega⟩
        rw [Int.neg_tdiv]
        have := Int.tdiv_le_self (b := 16) (show 0 ≤ w by omega)
        omega
    · rcases Int.le_total 0 window with h | h
      · have := Int.tdiv_le_self (b := 16) h
        omega
      · obtain ⟨w, rfl⟩ : ∃ w : Int, window = -w := ⟨-window, by omega⟩
        rw [Int.neg_tdiv]
        have := Int.tdiv_nonneg (show 0 ≤ w by omega) (show (0 : Int) ≤ 16 by omega)
        omega
  have c1 := around_c G window 16 (by omega) (by omega) hw
  have c2 := around_c G (window.tdiv 16) 16 (by omega) (by omega) hq
  have hwr : IntKind.i64.wrap (window.tdiv 16) = window.tdiv 16 := wr64 _ hq.1 hq.2
  have n1 := new_ok G (winA window : Nat) key (by rw [winA]; omega)
  have n2 := new_ok G (winB window : Nat) key (by rw [winB]; omega)
  rw [Int.toNat_natCast] at n1 n2
  have e1 : (1 : Int) + (arN window 16 : Nat) = (winA window : Nat) := by rw [winA]; omega
  have e2 : (1 : Int) + (arN (window.tdiv 16) 16 : Nat) = (winB window : Nat) := by rw [winB]; omega
  have h3 : winA window ≤ 16 := by rw [winA]; omega
  have h4 : winB window ≤ 16 := by rw [winB]; omega
  generalize winA window = wa at *
  generalize winB window = wb at *
  generalize arN window 16 = ka at *
  generalize arN (window.tdiv 16) 16 = kb at *
  (refine PCalls_f Try.func9 rfl Try.ntmps9 Try.results9 (by simp) fun fin hfin => ?_; have hnm : True := trivial; simp (maxSteps := 2000000) (disch := omega) only [evb, evd, pbuiltin, constPV, pnck, seqK, blockK, scopeK, pbin, pun, ppick, plen, piaddr, pindex, pfield, pslice, pbound, pconv, pelems, pextract, pmm, PV.mem?, PV.one, PV.cells, pageq, peqs, peq1, pmakes, pstore, pbytes, pmark, psrc, pkey, pnile, pcap, pgrow, List.set, Value.cells, ↓popG_eq, ↓pop.eq_1, ↓List.getElem?_map, ↓List.getElem?_cons_zero, ↓List.getElem?_cons_succ, Value.oneCell', Nat.reduceAdd, Nat.reduceMul, Nat.reduceSub, Nat.reduceLeDiff, Nat.reduceEqDiff, ↓reduceIte, ne_eq, reduceCtorEq, forall_const, exists_and_left, exists_eq_left', eq_self, Nat.reduceLT, Int.reduceLT, Int.reduceLE, Int.reduceToNat, Int.reduceAdd, Int.reduceSub, Int.reduceNeg, hnm, Try.tf0, Try.tf1, Try.tf2, Try.tf3, Try.tf4, Try.tf22, Try.tf24, Try.tf34, Try.tf35, Try.tf53, Try.tf65, Try.teq79, Try.call10, Try.call28])
  repeat' (first
    | (with_reducible apply W_seq_k; intro nx hnx)
    | (with_reducible first | apply W_block | apply W_scope)
    | (with_reducible refine W_prune 499 ?_; simp only [prb, Nat.reducePow, Nat.reduceDiv, Nat.reduceMod, Nat.reduceBEq]; with_reducible apply W_region_l)
    | (with_reducible refine WL_born (by simp) rfl (by simp) ?_; simp only [elemsOf, nl, List.map_cons, List.map_nil, Nat.reduceEqDiff, ↓reduceIte, List.take_succ_cons, List.take_zero, List.range_succ, List.range_zero, List.nil_append, List.cons_append, List.map_append, List.drop_succ_cons, List.drop_zero, Nat.reduceMul, Nat.zero_mul, Nat.one_mul, Nat.reduceAdd])
    | ((first | (with_reducible apply WL_op; intro nx hnx) | with_reducible refine Ev_out ?_ | (with_reducible refine pfresh_k hnm fun nm hnm => ?_; (try simp only [fmb] at hnm)) | (with_reducible refine pborn_im ?_; simp only [elemsOf, nl, List.map_cons, List.map_nil, Nat.reduceEqDiff, ↓reduceIte, List.take_succ_cons, List.take_zero, List.range_succ, List.range_zero, List.nil_append, List.cons_append, List.map_append, List.drop_succ_cons, List.drop_zero, Nat.reduceMul, Nat.zero_mul, Nat.one_mul, Nat.reduceAdd]) | (with_reducible refine pmaybe_k ?_; intro bn hbn)); try (simp (maxSteps := 2000000) (disch := omega) only [evb, evd, pbuiltin, constPV, pnck, seqK, blockK, scopeK, pbin, pun, ppick, plen, piaddr, pindex, pfield, pslice, pbound, pconv, pelems, pextract, pmm, PV.mem?, PV.one, PV.cells, pageq, peqs, peq1, pmakes, pstore, pbytes, pmark, psrc, pkey, pnile, pcap, pgrow, List.set, Value.cells, ↓popG_eq, ↓pop.eq_1, ↓List.getElem?_map, ↓List.getElem?_cons_zero, ↓List.getElem?_cons_succ, Value.oneCell', Nat.reduceAdd, Nat.reduceMul, Nat.reduceSub, Nat.reduceLeDiff, Nat.reduceEqDiff, ↓reduceIte, ne_eq, reduceCtorEq, forall_const, exists_and_left, exists_eq_left', eq_self, Nat.reduceLT, Int.reduceLT, Int.reduceLE, Int.reduceToNat, Int.reduceAdd, Int.reduceSub, Int.reduceNeg, hnm, Try.tf0, Try.tf1, Try.tf2, Try.tf3, Try.tf4, Try.tf22, Try.tf24, Try.tf34, Try.tf35, Try.tf53, Try.tf65, Try.teq79, Try.call10, Try.call28, e1, hwr]); repeat (refine And.intro (by omega) ?_))
    | ((with_reducible first | apply WL_nil | apply W_label | apply W_skip | apply W_exit | apply W_ret); try simp only [seqK, blockK, scopeK, ↓reduceIte, Nat.reduceEqDiff])
    | (with_reducible apply pguard_intro <;> (intro hc; (try simp only [hcb, reduceCtorEq, forall_const, ne_eq] at hc); first | (exfalso; omega) | (exfalso; exact hc trivial) | refine Ev_in ?_))
    | (with_reducible apply W_cond_k; intro _ _ ea eb; (simp only [condK, cob, opnd, constPV, Nat.reduceEqDiff, Nat.reduceLT, ↓reduceIte, hcb, reduceCtorEq, forall_const, ne_eq]); subst ea eb; first | (refine ⟨fun hc => ?_, fun hc => ?_⟩ <;> first | (exfalso; omega) | (exfalso; exact hc trivial) | skip) | skip)
    | (with_reducible apply hnx; clear hnx nx)
    | (with_reducible refine And.intro (by omega) ?_)
    | (with_reducible refine And.intro ?_ ?_)
    | (with_reducible refine pcall_k (c1) ?_; rintro _ _ ⟨rfl, rfl⟩ -; refine Ev_in ?_)
    | (clear hnx nx; with_reducible apply hnx; clear hnx nx)
    | (clear hnx nx; clear hnx nx; with_reducible apply hnx; clear hnx nx)
    | (clear hnx nx; clear hnx nx; clear hnx nx; with_reducible apply hnx; clear hnx nx))
  refine pcall_k n1 ?_
  rintro _ Ha ⟨a, rfl, hEa⟩ -
  refine Ev_in ?_
  repeat' (first
    | (with_reducible apply W_seq_k; intro nx hnx)
    | (with_reducible first | apply W_block | apply W_scope)
    | (with_reducible refine W_prune 499 ?_; simp only [prb, Nat.reducePow, Nat.reduceDiv, Nat.reduceMod, Nat.reduceBEq]; with_reducible apply W_region_l)
    | (with_reducible refine WL_born (by simp) rfl (by simp) ?_; simp only [elemsOf, nl, List.map_cons, List.map_nil, Nat.reduceEqDiff, ↓reduceIte, List.take_succ_cons, List.take_zero, List.range_succ, List.range_zero, List.nil_append, List.cons_append, List.map_append, List.drop_succ_cons, List.drop_zero, Nat.reduceMul, Nat.zero_mul, Nat.one_mul, Nat.reduceAdd])
    | ((first | (with_reducible apply WL_op; intro nx hnx) | with_reducible refine Ev_out ?_ | (with_reducible refine pfresh_k hnm fun nm hnm => ?_; (try simp only [fmb] at hnm)) | (with_reducible refine pborn_im ?_; simp only [elemsOf, nl, List.map_cons, List.map_nil, Nat.reduceEqDiff, ↓reduceIte, List.take_succ_cons, List.take_zero, List.range_succ, List.range_zero, List.nil_append, List.cons_append, List.map_append, List.drop_succ_cons, List.drop_zero, Nat.reduceMul, Nat.zero_mul, Nat.one_mul, Nat.reduceAdd]) | (with_reducible refine pmaybe_k ?_; intro bn hbn)); try (simp (maxSteps := 2000000) (disch := omega) only [evb, evd, pbuiltin, constPV, pnck, seqK, blockK, scopeK, pbin, pun, ppick, plen, piaddr, pindex, pfield, pslice, pbound, pconv, pelems, pextract, pmm, PV.mem?, PV.one, PV.cells, pageq, peqs, peq1, pmakes, pstore, pbytes, pmark, psrc, pkey, pnile, pcap, pgrow, List.set, Value.cells, ↓popG_eq, ↓pop.eq_1, ↓List.getElem?_map, ↓List.getElem?_cons_zero, ↓List.getElem?_cons_succ, Value.oneCell', Nat.reduceAdd, Nat.reduceMul, Nat.reduceSub, Nat.reduceLeDiff, Nat.reduceEqDiff, ↓reduceIte, ne_eq, reduceCtorEq, forall_const, exists_and_left, exists_eq_left', eq_self, Nat.reduceLT, Int.reduceLT, Int.reduceLE, Int.reduceToNat, Int.reduceAdd, Int.reduceSub, Int.reduceNeg, hnm, Try.tf0, Try.tf1, Try.tf2, Try.tf3, Try.tf4, Try.tf22, Try.tf24, Try.tf34, Try.tf35, Try.tf53, Try.tf65, Try.teq79, Try.call10, Try.call28, e2, hwr]); repeat (refine And.intro (by omega) ?_))
    | ((with_reducible first | apply WL_nil | apply W_label | apply W_skip | apply W_exit | apply W_ret); try simp only [seqK, blockK, scopeK, ↓reduceIte, Nat.reduceEqDiff])
    | (with_reducible apply pguard_intro <;> (intro hc; (try simp only [hcb, reduceCtorEq, forall_const, ne_eq] at hc); first | (exfalso; omega) | (exfalso; exact hc trivial) | refine Ev_in ?_))
    | (with_reducible apply W_cond_k; intro _ _ ea eb; (simp only [condK, cob, opnd, constPV, Nat.reduceEqDiff, Nat.reduceLT, ↓reduceIte, hcb, reduceCtorEq, forall_const, ne_eq]); subst ea eb; first | (refine ⟨fun hc => ?_, fun hc => ?_⟩ <;> first | (exfalso; omega) | (exfalso; exact hc trivial) | skip) | skip)
    | (with_reducible apply hnx; clear hnx nx)
    | (with_reducible refine And.intro (by omega) ?_)
    | (with_reducible refine And.intro ?_ ?_)
    | (with_reducible refine pcall_k (c2) ?_; rintro _ _ ⟨rfl, rfl⟩ -; refine Ev_in ?_)
    | (clear hnx nx; with_reducible apply hnx; clear hnx nx)
    | (clear hnx nx; clear hnx nx; with_reducible apply hnx; clear hnx nx)
    | (clear hnx nx; clear hnx nx; clear hnx nx; with_reducible apply hnx; clear hnx nx))
  refine pcall_k n2 ?_
  rintro _ Hb ⟨b, rfl, hEb⟩ -
  refine Ev_in ?_
  repeat' (first
    | (with_reducible first | apply W_block | apply W_scope)
    | (with_reducible refine W_prune 499 ?_; simp only [prb, Nat.reducePow, Nat.reduceDiv, Nat.reduceMod, Nat.reduceBEq]; with_reducible apply W_region_l)
    | ((first | (with_reducible apply WL_op; intro nx hnx) | with_reducible refine Ev_out ?_ | (with_reducible refine pfresh_k hnm fun nm hnm => ?_; (try simp only [fmb] at hnm)) | (with_reducible refine pborn_mu hnm fun nm hnm => ?_; (try simp only [fmb] at hnm)) | (with_reducible refine pmaybe_k ?_; intro bn hbn)); try (simp (maxSteps := 2000000) (disch := omega) only [evb, evd, pbuiltin, constPV, pnck, seqK, blockK, scopeK, pbin, pun, ppick, plen, piaddr, pindex, pfield, pslice, pbound, pconv, pelems, pextract, pmm, PV.mem?, PV.one, PV.cells, pageq, peqs, peq1, pmakes, pstore, pbytes, pmark, psrc, pkey, pnile, pcap, pgrow, List.set, Value.cells, ↓popG_eq, ↓pop.eq_1, ↓List.getElem?_map, ↓List.getElem?_cons_zero, ↓List.getElem?_cons_succ, Value.oneCell', Nat.reduceAdd, Nat.reduceMul, Nat.reduceSub, Nat.reduceLeDiff, Nat.reduceEqDiff, ↓reduceIte, ne_eq, reduceCtorEq, forall_const, exists_and_left, exists_eq_left', eq_self, Nat.reduceLT, Int.reduceLT, Int.reduceLE, Int.reduceToNat, Int.reduceAdd, Int.reduceSub, Int.reduceNeg, hnm, Try.tf0, Try.tf1, Try.tf2, Try.tf3, Try.tf4, Try.tf22, Try.tf24, Try.tf34, Try.tf35, Try.tf53, Try.tf65, Try.teq79, Try.call10, Try.call28]); repeat (refine And.intro (by omega) ?_))
    | ((with_reducible first | apply WL_nil | apply W_label | apply W_skip | apply W_exit | apply W_ret); try simp only [seqK, blockK, scopeK, ↓reduceIte, Nat.reduceEqDiff])
    | (with_reducible apply pguard_intro <;> (intro hc; (try simp only [hcb, reduceCtorEq, forall_const, ne_eq] at hc); first | (exfalso; omega) | (exfalso; exact hc trivial) | refine Ev_in ?_))
    | (with_reducible apply W_cond_k; intro _ _ ea eb; (simp only [condK, cob, opnd, constPV, Nat.reduceEqDiff, Nat.reduceLT, ↓reduceIte, hcb, reduceCtorEq, forall_const, ne_eq]); subst ea eb; first | (refine ⟨fun hc => ?_, fun hc => ?_⟩ <;> first | (exfalso; omega) | (exfalso; exact hc trivial) | skip) | skip)
    | (with_reducible apply hnx; clear hnx nx)
    | (with_reducible refine And.intro (by omega) ?_)
    | (with_reducible refine And.intro ?_ ?_)
    | (clear hnx nx; with_reducible apply hnx; clear hnx nx)
    | (clear hnx nx; clear hnx nx; with_reducible apply hnx; clear hnx nx)
    | (clear hnx nx; clear hnx nx; clear hnx nx; with_reducible apply hnx; clear hnx nx))
  refine W_nd fun nd => ?_
  repeat' (first
    | (with_reducible apply W_seq_k; intro nx hnx)
    | (with_reducible first | apply W_block | apply W_scope)
    | (with_reducible refine W_prune 499 ?_; simp only [prb, Nat.reducePow, Nat.reduceDiv, Nat.reduceMod, Nat.reduceBEq]; with_reducible apply W_region_l)
    | (with_reducible refine WL_born (by simp) rfl (by simp) ?_; simp only [elemsOf, nl, List.map_cons, List.map_nil, Nat.reduceEqDiff, ↓reduceIte, List.take_succ_cons, List.take_zero, List.range_succ, List.range_zero, List.nil_append, List.cons_append, List.map_append, List.drop_succ_cons, List.drop_zero, Nat.reduceMul, Nat.zero_mul, Nat.one_mul, Nat.reduceAdd])
    | ((first | (with_reducible apply WL_op; intro nx hnx) | with_reducible refine Ev_out ?_ | (with_reducible refine pfresh_k hnm fun nm hnm => ?_; (try simp only [fmb] at hnm)) | (with_reducible refine pborn_im ?_; simp only [elemsOf, nl, List.map_cons, List.map_nil, Nat.reduceEqDiff, ↓reduceIte, List.take_succ_cons, List.take_zero, List.range_succ, List.range_zero, List.nil_append, List.cons_append, List.map_append, List.drop_succ_cons, List.drop_zero, Nat.reduceMul, Nat.zero_mul, Nat.one_mul, Nat.reduceAdd]) | (with_reducible refine pmaybe_k ?_; intro bn hbn)); try (simp (maxSteps := 2000000) (disch := omega) only [evb, evd, pbuiltin, constPV, pnck, seqK, blockK, scopeK, pbin, pun, ppick, plen, piaddr, pindex, pfield, pslice, pbound, pconv, pelems, pextract, pmm, PV.mem?, PV.one, PV.cells, pageq, peqs, peq1, pmakes, pstore, pbytes, pmark, psrc, pkey, pnile, pcap, pgrow, List.set, Value.cells, ↓popG_eq, ↓pop.eq_1, ↓List.getElem?_map, ↓List.getElem?_cons_zero, ↓List.getElem?_cons_succ, Value.oneCell', Nat.reduceAdd, Nat.reduceMul, Nat.reduceSub, Nat.reduceLeDiff, Nat.reduceEqDiff, ↓reduceIte, ne_eq, reduceCtorEq, forall_const, exists_and_left, exists_eq_left', eq_self, Nat.reduceLT, Int.reduceLT, Int.reduceLE, Int.reduceToNat, Int.reduceAdd, Int.reduceSub, Int.reduceNeg, hnm, Try.tf0, Try.tf1, Try.tf2, Try.tf3, Try.tf4, Try.tf22, Try.tf24, Try.tf34, Try.tf35, Try.tf53, Try.tf65, Try.teq79, Try.call10, Try.call28]); repeat (refine And.intro (by omega) ?_))
    | ((with_reducible first | apply WL_nil | apply W_label | apply W_skip | apply W_exit | apply W_ret); try simp only [seqK, blockK, scopeK, ↓reduceIte, Nat.reduceEqDiff])
    | (with_reducible apply pguard_intro <;> (intro hc; (try simp only [hcb, reduceCtorEq, forall_const, ne_eq] at hc); first | (exfalso; omega) | (exfalso; exact hc trivial) | refine Ev_in ?_))
    | (with_reducible apply W_cond_k; intro _ _ ea eb; (simp only [condK, cob, opnd, constPV, Nat.reduceEqDiff, Nat.reduceLT, ↓reduceIte, hcb, reduceCtorEq, forall_const, ne_eq]); subst ea eb; first | (refine ⟨fun hc => ?_, fun hc => ?_⟩ <;> first | (exfalso; omega) | (exfalso; exact hc trivial) | skip) | skip)
    | (with_reducible apply hnx; clear hnx nx)
    | (with_reducible refine And.intro (by omega) ?_)
    | (with_reducible refine And.intro ?_ ?_)
    | (clear hnx nx; with_reducible apply hnx; clear hnx nx)
    | (clear hnx nx; clear hnx nx; with_reducible apply hnx; clear hnx nx)
    | (clear hnx nx; clear hnx nx; clear hnx nx; with_reducible apply hnx; clear hnx nx))
  all_goals first
    | exact absurd trivial hc
    | (refine hfin _ _ (Fin_ret1 rfl (H := Hb ++ Ha) (Sub_refl nd) ⟨b, a, Hb, Ha, ?_, rfl, hEb, hEa⟩)
       simp only [fr_getD_cons, Nat.reduceEqDiff, Nat.reduceLT, ↓reduceIte])
theorem send_k (G : Globs) {e : Int} {s s' : LE} {b : List UInt8} {r : Int} {Hin : Heap} (h : sendL s b = (r, s')) (hH : IsEnd e s Hin) (hb : b.length ≤ 4294900000) (hw : s.wait.length ≤ 4294900000) :
    PCalls Try.prog G 11 [.ptr e 0, pl b] Hin (fun res H => res = pint .i64 r ∧ IsEnd e s' H) := by
  have := send_c G e s b hb hw Hin hH
  rwa [h] at this
theorem in_k (G : Globs) {e : Int} {s s' : LE} {x : List UInt8} {l : List (List UInt8)} {r : Int} {Hin : Heap} (h : inL s x = ((l, r), s')) (hH : IsEnd e s Hin) (hx : x.length ≤ 4294900000) (hs : OkE s) :
    PCalls Try.prog G 19 [.ptr e 0, pl x] Hin (fun res H => res = .tuple [.list 1 (l.map pl), pint .i64 r] ∧ IsEnd e s' H) := by
  have := in_c G e s x hx hs Hin hH
  rwa [h] at this
theorem out_k (G : Globs) {e : Int} {s s' : LE} {l : List (List UInt8)} {Hin : Heap} (h : outL s = (l, s')) (hH : IsEnd e s Hin) (hs : OkE s) (hwin : s.win ≤ 1000) (hW : ∀ b ∈ s.wait, b.length ≤ 65536) :
    PCalls Try.prog G 13 [.ptr e 0] Hin (fun res H => res = .list 1 (l.map pl) ∧ IsEnd e s' H) := by
  have := out_c G e s hs hwin hW Hin hH
  rwa [h] at this
set_option maxRecDepth 100000 in
set_option maxHeartbeats 8000000 in
theorem lives_c (G : Globs) : PCalls Try.prog G 23 [] [] (fun res H => res = pbool true ∧ H = []) := by
  have n1 := new_ok G 2 9 (by omega)
  have n1 : PCalls Try.prog G 28 [.val (.int .i64 2), .val (.int .u64 9)] [] (fun res H => ∃ e, res = .tuple [.ptr e 0, pint .i64 0] ∧ IsEnd e (newL 2 9) H) := n1
  (refine PCalls_f Try.func23 rfl Try.ntmps23 Try.results23 (by simp) fun fin hfin => ?_; have hnm : True := trivial; simp (maxSteps := 2000000) (disch := omega) only [evb, evd, pbuiltin, constPV, pnck, seqK, blockK, scopeK, pbin, pun, ppick, plen, piaddr, pindex, pfield, pslice, pbound, pconv, pelems, pextract, pmm, PV.mem?, PV.one, PV.cells, pageq, peqs, peq1, pmakes, pstore, pbytes, pmark, psrc, pkey, pnile, pcap, pgrow, List.set, Value.cells, ↓popG_eq, ↓pop.eq_1, ↓List.getElem?_map, ↓List.getElem?_cons_zero, ↓List.getElem?_cons_succ, Value.oneCell', Nat.reduceAdd, Nat.reduceMul, Nat.reduceSub, Nat.reduceLeDiff, Nat.reduceEqDiff, ↓reduceIte, ne_eq, reduceCtorEq, forall_const, exists_and_left, exists_eq_left', eq_self, Nat.reduceLT, Int.reduceLT, Int.reduceLE, Int.reduceToNat, Int.reduceAdd, Int.reduceSub, Int.reduceNeg, hnm, Try.tf0, Try.tf1, Try.tf3, Try.tf4, Try.tf5, Try.tf9, Try.tf22, Try.tf28, Try.tf33, Try.tf34, Try.tf35, Try.tf43, Try.tf44, Try.tf53, Try.tf65, Try.teq79, Try.call11, Try.call13, Try.call17, Try.call18, Try.call19, Try.call21, Try.call22, Try.call28, Try.call29])
  repeat' (first
    | (with_reducible apply W_seq_k; intro nx hnx)
    | (with_reducible first | apply W_block | apply W_scope)
    | (with_reducible refine W_prune 14335 ?_; simp only [prb, Nat.reducePow, Nat.reduceDiv, Nat.reduceMod, Nat.reduceBEq]; with_reducible apply W_region_l)
    | (with_reducible refine WL_born (by simp) rfl (by simp) ?_; simp only [elemsOf, nl, List.map_cons, List.map_nil, Nat.reduceEqDiff, ↓reduceIte, List.take_succ_cons, List.take_zero, List.range_succ, List.range_zero, List.nil_append, List.cons_append, List.map_append, List.drop_succ_cons, List.drop_zero, Nat.reduceMul, Nat.zero_mul, Nat.one_mul, Nat.reduceAdd])
    | ((first | (with_reducible apply WL_op; intro nx hnx) | with_reducible refine Ev_out ?_ | (with_reducible refine pfresh_k hnm fun nm hnm => ?_; (try simp only [fmb] at hnm)) | (with_reducible refine pborn_im ?_; simp only [elemsOf, nl, List.map_cons, List.map_nil, Nat.reduceEqDiff, ↓reduceIte, List.take_succ_cons, List.take_zero, List.range_succ, List.range_zero, List.nil_append, List.cons_append, List.map_append, List.drop_succ_cons, List.drop_zero, Nat.reduceMul, Nat.zero_mul, Nat.one_mul, Nat.reduceAdd])); try (simp (maxSteps := 2000000) (disch := omega) only [evb, evd, pbuiltin, constPV, pnck, seqK, blockK, scopeK, pbin, pun, ppick, plen, piaddr, pindex, pfield, pslice, pbound, pconv, pelems, pextract, pmm, PV.mem?, PV.one, PV.cells, pageq, peqs, peq1, pmakes, pstore, pbytes, pmark, psrc, pkey, pnile, pcap, pgrow, List.set, Value.cells, ↓popG_eq, ↓pop.eq_1, ↓List.getElem?_map, ↓List.getElem?_cons_zero, ↓List.getElem?_cons_succ, Value.oneCell', Nat.reduceAdd, Nat.reduceMul, Nat.reduceSub, Nat.reduceLeDiff, Nat.reduceEqDiff, ↓reduceIte, ne_eq, reduceCtorEq, forall_const, exists_and_left, exists_eq_left', eq_self, Nat.reduceLT, Int.reduceLT, Int.reduceLE, Int.reduceToNat, Int.reduceAdd, Int.reduceSub, Int.reduceNeg, hnm, Try.tf0, Try.tf1, Try.tf3, Try.tf4, Try.tf5, Try.tf9, Try.tf22, Try.tf28, Try.tf33, Try.tf34, Try.tf35, Try.tf43, Try.tf44, Try.tf53, Try.tf65, Try.teq79, Try.call11, Try.call13, Try.call17, Try.call18, Try.call19, Try.call21, Try.call22, Try.call28, Try.call29]); repeat (refine And.intro (by omega) ?_))
    | ((with_reducible first | apply WL_nil | apply W_label | apply W_skip | apply W_exit | apply W_ret); try simp only [seqK, blockK, scopeK, ↓reduceIte, Nat.reduceEqDiff])
    | (with_reducible apply pguard_intro <;> (intro hc; (try simp only [hcb, reduceCtorEq, forall_const, ne_eq] at hc); first | (exfalso; omega) | (exfalso; exact hc trivial) | refine Ev_in ?_))
    | (with_reducible apply W_cond_k; intro _ _ ea eb; (simp only [condK, cob, opnd, constPV, Nat.reduceEqDiff, Nat.reduceLT, ↓reduceIte, hcb, reduceCtorEq, forall_const, ne_eq]); subst ea eb; first | (refine ⟨fun hc => ?_, fun hc => ?_⟩ <;> first | (exfalso; omega) | (exfalso; exact hc trivial) | skip) | skip)
    | (with_reducible apply hnx; clear hnx nx)
    | (with_reducible refine And.intro (by omega) ?_)
    | (with_reducible refine And.intro ?_ ?_)
    | (clear hnx nx; with_reducible apply hnx; clear hnx nx)
    | (clear hnx nx; clear hnx nx; with_reducible apply hnx; clear hnx nx)
    | (clear hnx nx; clear hnx nx; clear hnx nx; with_reducible apply hnx; clear hnx nx))
  refine pcall_k n1 ?_
  rintro _ Ha ⟨a, rfl, hEa⟩ -
  refine Ev_in ?_
  repeat' (first
    | (with_reducible apply W_seq_k; intro nx hnx)
    | (with_reducible first | apply W_block | apply W_scope)
    | (with_reducible refine W_prune 14335 ?_; simp only [prb, Nat.reducePow, Nat.reduceDiv, Nat.reduceMod, Nat.reduceBEq]; with_reducible apply W_region_l)
    | (with_reducible refine WL_born (by simp) rfl (by simp) ?_; simp only [elemsOf, nl, List.map_cons, List.map_nil, Nat.reduceEqDiff, ↓reduceIte, List.take_succ_cons, List.take_zero, List.range_succ, List.range_zero, List.nil_append, List.cons_append, List.map_append, List.drop_succ_cons, List.drop_zero, Nat.reduceMul, Nat.zero_mul, Nat.one_mul, Nat.reduceAdd])
    | ((first | (with_reducible apply WL_op; intro nx hnx) | with_reducible refine Ev_out ?_ | (with_reducible refine pfresh_k hnm fun nm hnm => ?_; (try simp only [fmb] at hnm)) | (with_reducible refine pborn_im ?_; simp only [elemsOf, nl, List.map_cons, List.map_nil, Nat.reduceEqDiff, ↓reduceIte, List.take_succ_cons, List.take_zero, List.range_succ, List.range_zero, List.nil_append, List.cons_append, List.map_append, List.drop_succ_cons, List.drop_zero, Nat.reduceMul, Nat.zero_mul, Nat.one_mul, Nat.reduceAdd])); try (simp (maxSteps := 2000000) (disch := omega) only [evb, evd, pbuiltin, constPV, pnck, seqK, blockK, scopeK, pbin, pun, ppick, plen, piaddr, pindex, pfield, pslice, pbound, pconv, pelems, pextract, pmm, PV.mem?, PV.one, PV.cells, pageq, peqs, peq1, pmakes, pstore, pbytes, pmark, psrc, pkey, pnile, pcap, pgrow, List.set, Value.cells, ↓popG_eq, ↓pop.eq_1, ↓List.getElem?_map, ↓List.getElem?_cons_zero, ↓List.getElem?_cons_succ, Value.oneCell', Nat.reduceAdd, Nat.reduceMul, Nat.reduceSub, Nat.reduceLeDiff, Nat.reduceEqDiff, ↓reduceIte, ne_eq, reduceCtorEq, forall_const, exists_and_left, exists_eq_left', eq_self, Nat.reduceLT, Int.reduceLT, Int.reduceLE, Int.reduceToNat, Int.reduceAdd, Int.reduceSub, Int.reduceNeg, hnm, Try.tf0, Try.tf1, Try.tf3, Try.tf4, Try.tf5, Try.tf9, Try.tf22, Try.tf28, Try.tf33, Try.tf34, Try.tf35, Try.tf43, Try.tf44, Try.tf53, Try.tf65, Try.teq79, Try.call11, Try.call13, Try.call17, Try.call18, Try.call19, Try.call21, Try.call22, Try.call28, Try.call29]); repeat (refine And.intro (by omega) ?_))
    | ((with_reducible first | apply WL_nil | apply W_label | apply W_skip | apply W_exit | apply W_ret); try simp only [seqK, blockK, scopeK, ↓reduceIte, Nat.reduceEqDiff])
    | (with_reducible apply pguard_intro <;> (intro hc; (try simp only [hcb, reduceCtorEq, forall_const, ne_eq] at hc); first | (exfalso; omega) | (exfalso; exact hc trivial) | refine Ev_in ?_))
    | (with_reducible apply W_cond_k; intro _ _ ea eb; (simp only [condK, cob, opnd, constPV, Nat.reduceEqDiff, Nat.reduceLT, ↓reduceIte, hcb, reduceCtorEq, forall_const, ne_eq]); subst ea eb; first | (refine ⟨fun hc => ?_, fun hc => ?_⟩ <;> first | (exfalso; omega) | (exfalso; exact hc trivial) | skip) | skip)
    | (with_reducible apply hnx; clear hnx nx)
    | (with_reducible refine And.intro (by omega) ?_)
    | (with_reducible refine And.intro ?_ ?_)
    | (clear hnx nx; with_reducible apply hnx; clear hnx nx)
    | (clear hnx nx; clear hnx nx; with_reducible apply hnx; clear hnx nx)
    | (clear hnx nx; clear hnx nx; clear hnx nx; with_reducible apply hnx; clear hnx nx))
  refine pcall_k n1 ?_
  rintro _ Hb ⟨b, rfl, hEb⟩ -
  refine Ev_in ?_
  repeat' (first
    | (with_reducible first | apply W_block | apply W_scope)
    | (with_reducible refine W_prune 14335 ?_; simp only [prb, Nat.reducePow, Nat.reduceDiv, Nat.reduceMod, Nat.reduceBEq]; with_reducible apply W_region_l)
    | ((first | (with_reducible apply WL_op; intro nx hnx) | with_reducible refine Ev_out ?_ | (with_reducible refine pfresh_k hnm fun nm hnm => ?_; (try simp only [fmb] at hnm)) | (with_reducible refine pborn_mu hnm fun nm hnm => ?_; (try simp only [fmb] at hnm))); try (simp (maxSteps := 2000000) (disch := omega) only [evb, evd, pbuiltin, constPV, pnck, seqK, blockK, scopeK, pbin, pun, ppick, plen, piaddr, pindex, pfield, pslice, pbound, pconv, pelems, pextract, pmm, PV.mem?, PV.one, PV.cells, pageq, peqs, peq1, pmakes, pstore, pbytes, pmark, psrc, pkey, pnile, pcap, pgrow, List.set, Value.cells, ↓popG_eq, ↓pop.eq_1, ↓List.getElem?_map, ↓List.getElem?_cons_zero, ↓List.getElem?_cons_succ, Value.oneCell', Nat.reduceAdd, Nat.reduceMul, Nat.reduceSub, Nat.reduceLeDiff, Nat.reduceEqDiff, ↓reduceIte, ne_eq, reduceCtorEq, forall_const, exists_and_left, exists_eq_left', eq_self, Nat.reduceLT, Int.reduceLT, Int.reduceLE, Int.reduceToNat, Int.reduceAdd, Int.reduceSub, Int.reduceNeg, hnm, Try.tf0, Try.tf1, Try.tf3, Try.tf4, Try.tf5, Try.tf9, Try.tf22, Try.tf28, Try.tf33, Try.tf34, Try.tf35, Try.tf43, Try.tf44, Try.tf53, Try.tf65, Try.teq79, Try.call11, Try.call13, Try.call17, Try.call18, Try.call19, Try.call21, Try.call22, Try.call28, Try.call29]); repeat (refine And.intro (by omega) ?_))
    | ((with_reducible first | apply WL_nil | apply W_label | apply W_skip | apply W_exit | apply W_ret); try simp only [seqK, blockK, scopeK, ↓reduceIte, Nat.reduceEqDiff])
    | (with_reducible apply pguard_intro <;> (intro hc; (try simp only [hcb, reduceCtorEq, forall_const, ne_eq] at hc); first | (exfalso; omega) | (exfalso; exact hc trivial) | refine Ev_in ?_))
    | (with_reducible apply W_cond_k; intro _ _ ea eb; (simp only [condK, cob, opnd, constPV, Nat.reduceEqDiff, Nat.reduceLT, ↓reduceIte, hcb, reduceCtorEq, forall_const, ne_eq]); subst ea eb; first | (refine ⟨fun hc => ?_, fun hc => ?_⟩ <;> first | (exfalso; omega) | (exfalso; exact hc trivial) | skip) | skip)
    | (with_reducible apply hnx; clear hnx nx)
    | (with_reducible refine And.intro (by omega) ?_)
    | (with_reducible refine And.intro ?_ ?_)
    | (clear hnx nx; with_reducible apply hnx; clear hnx nx)
    | (clear hnx nx; clear hnx nx; with_reducible apply hnx; clear hnx nx)
    | (clear hnx nx; clear hnx nx; clear hnx nx; with_reducible apply hnx; clear hnx nx))
  with_reducible apply W_seq_k
  intro nx hnx
  repeat' (first
    | (with_reducible first | apply W_block | apply W_scope)
    | (with_reducible refine W_prune 14335 ?_; simp only [prb, Nat.reducePow, Nat.reduceDiv, Nat.reduceMod, Nat.reduceBEq]; with_reducible apply W_region_l)
    | ((first | (with_reducible apply WL_op; intro nx hnx) | with_reducible refine Ev_out ?_ | (with_reducible refine pfresh_k hnm fun nm hnm => ?_; (try simp only [fmb] at hnm)) | (with_reducible refine pborn_mu hnm fun nm hnm => ?_; (try simp only [fmb] at hnm))); try (simp (maxSteps := 2000000) (disch := omega) only [evb, evd, pbuiltin, constPV, pnck, seqK, blockK, scopeK, pbin, pun, ppick, plen, piaddr, pindex, pfield, pslice, pbound, pconv, pelems, pextract, pmm, PV.mem?, PV.one, PV.cells, pageq, peqs, peq1, pmakes, pstore, pbytes, pmark, psrc, pkey, pnile, pcap, pgrow, List.set, Value.cells, ↓popG_eq, ↓pop.eq_1, ↓List.getElem?_map, ↓List.getElem?_cons_zero, ↓List.getElem?_cons_succ, Value.oneCell', Nat.reduceAdd, Nat.reduceMul, Nat.reduceSub, Nat.reduceLeDiff, Nat.reduceEqDiff, ↓reduceIte, ne_eq, reduceCtorEq, forall_const, exists_and_left, exists_eq_left', eq_self, Nat.reduceLT, Int.reduceLT, Int.reduceLE, Int.reduceToNat, Int.reduceAdd, Int.reduceSub, Int.reduceNeg, hnm, Try.tf0, Try.tf1, Try.tf3, Try.tf4, Try.tf5, Try.tf9, Try.tf22, Try.tf28, Try.tf33, Try.tf34, Try.tf35, Try.tf43, Try.tf44, Try.tf53, Try.tf65, Try.teq79, Try.call11, Try.call13, Try.call17, Try.call18, Try.call19, Try.call21, Try.call22, Try.call28, Try.call29]); repeat (refine And.intro (by omega) ?_))
    | ((with_reducible first | apply WL_nil | apply W_label | apply W_skip | apply W_exit | apply W_ret); try simp only [seqK, blockK, scopeK, ↓reduceIte, Nat.reduceEqDiff])
    | (with_reducible apply pguard_intro <;> (intro hc; (try simp only [hcb, reduceCtorEq, forall_const, ne_eq] at hc); first | (exfalso; omega) | (exfalso; exact hc trivial) | refine Ev_in ?_))
    | (with_reducible apply W_cond_k; intro _ _ ea eb; (simp only [condK, cob, opnd, constPV, Nat.reduceEqDiff, Nat.reduceLT, ↓reduceIte, hcb, reduceCtorEq, forall_const, ne_eq]); subst ea eb; first | (refine ⟨fun hc => ?_, fun hc => ?_⟩ <;> first | (exfalso; omega) | (exfalso; exact hc trivial) | skip) | skip)
    | (with_reducible apply hnx; clear hnx nx)
    | (with_reducible refine And.intro (by omega) ?_)
    | (with_reducible refine And.intro ?_ ?_)
    | (clear hnx nx; with_reducible apply hnx; clear hnx nx)
    | (clear hnx nx; clear hnx nx; with_reducible apply hnx; clear hnx nx)
    | (clear hnx nx; clear hnx nx; clear hnx nx; with_reducible apply hnx; clear hnx nx))
  all_goals first
    | exact absurd trivial hc
    | skip
  with_reducible apply W_seq_k
  intro nx hnx
  repeat' (first
    | (with_reducible first | apply W_block | apply W_scope)
    | (with_reducible refine W_prune 14335 ?_; simp only [prb, Nat.reducePow, Nat.reduceDiv, Nat.reduceMod, Nat.reduceBEq]; with_reducible apply W_region_l)
    | ((first | (with_reducible apply WL_op; intro nx hnx) | with_reducible refine Ev_out ?_ | (with_reducible refine pfresh_k hnm fun nm hnm => ?_; (try simp only [fmb] at hnm)) | (with_reducible refine pborn_mu hnm fun nm hnm => ?_; (try simp only [fmb] at hnm))); try (simp (maxSteps := 2000000) (disch := omega) only [evb, evd, pbuiltin, constPV, pnck, seqK, blockK, scopeK, pbin, pun, ppick, plen, piaddr, pindex, pfield, pslice, pbound, pconv, pelems, pextract, pmm, PV.mem?, PV.one, PV.cells, pageq, peqs, peq1, pmakes, pstore, pbytes, pmark, psrc, pkey, pnile, pcap, pgrow, List.set, Value.cells, ↓popG_eq, ↓pop.eq_1, ↓List.getElem?_map, ↓List.getElem?_cons_zero, ↓List.getElem?_cons_succ, Value.oneCell', Nat.reduceAdd, Nat.reduceMul, Nat.reduceSub, Nat.reduceLeDiff, Nat.reduceEqDiff, ↓reduceIte, ne_eq, reduceCtorEq, forall_const, exists_and_left, exists_eq_left', eq_self, Nat.reduceLT, Int.reduceLT, Int.reduceLE, Int.reduceToNat, Int.reduceAdd, Int.reduceSub, Int.reduceNeg, hnm, Try.tf0, Try.tf1, Try.tf3, Try.tf4, Try.tf5, Try.tf9, Try.tf22, Try.tf28, Try.tf33, Try.tf34, Try.tf35, Try.tf43, Try.tf44, Try.tf53, Try.tf65, Try.teq79, Try.call11, Try.call13, Try.call17, Try.call18, Try.call19, Try.call21, Try.call22, Try.call28, Try.call29]); repeat (refine And.intro (by omega) ?_))
    | ((with_reducible first | apply WL_nil | apply W_label | apply W_skip | apply W_exit | apply W_ret); try simp only [seqK, blockK, scopeK, ↓reduceIte, Nat.reduceEqDiff])
    | (with_reducible apply pguard_intro <;> (intro hc; (try simp only [hcb, reduceCtorEq, forall_const, ne_eq] at hc); first | (exfalso; omega) | (exfalso; exact hc trivial) | refine Ev_in ?_))
    | (with_reducible apply W_cond_k; intro _ _ ea eb; (simp only [condK, cob, opnd, constPV, Nat.reduceEqDiff, Nat.reduceLT, ↓reduceIte, hcb, reduceCtorEq, forall_const, ne_eq]); subst ea eb; first | (refine ⟨fun hc => ?_, fun hc => ?_⟩ <;> first | (exfalso; omega) | (exfalso; exact hc trivial) | skip) | skip)
    | (with_reducible apply hnx; clear hnx nx)
    | (with_reducible refine And.intro (by omega) ?_)
    | (with_reducible refine And.intro ?_ ?_)
    | (clear hnx nx; with_reducible apply hnx; clear hnx nx)
    | (clear hnx nx; clear hnx nx; with_reducible apply hnx; clear hnx nx)
    | (clear hnx nx; clear hnx nx; clear hnx nx; with_reducible apply hnx; clear hnx nx))
  all_goals first
    | exact absurd trivial hc
    | skip
  with_reducible apply W_seq_k
  intro nx hnx
  iterate 8 (first
    | (with_reducible apply W_seq_k; intro nx hnx)
    | (with_reducible first | apply W_block | apply W_scope)
    | (with_reducible refine W_prune 14335 ?_; simp only [prb, Nat.reducePow, Nat.reduceDiv, Nat.reduceMod, Nat.reduceBEq]; with_reducible apply W_region_l)
    | ((first | (with_reducible apply WL_op; intro nx hnx) | with_reducible refine Ev_out ?_ | (with_reducible refine pfresh_k hnm fun nm hnm => ?_; (try simp only [fmb] at hnm)) | (with_reducible refine pborn_mu hnm fun nm hnm => ?_; (try simp only [fmb] at hnm))); try (simp (maxSteps := 2000000) (disch := omega) only [evb, evd, pbuiltin, constPV, pnck, seqK, blockK, scopeK, pbin, pun, ppick, plen, piaddr, pindex, pfield, pslice, pbound, pconv, pelems, pextract, pmm, PV.mem?, PV.one, PV.cells, pageq, peqs, peq1, pmakes, pstore, pbytes, pmark, psrc, pkey, pnile, pcap, pgrow, List.set, Value.cells, ↓popG_eq, ↓pop.eq_1, ↓List.getElem?_map, ↓List.getElem?_cons_zero, ↓List.getElem?_cons_succ, Value.oneCell', Nat.reduceAdd, Nat.reduceMul, Nat.reduceSub, Nat.reduceLeDiff, Nat.reduceEqDiff, ↓reduceIte, ne_eq, reduceCtorEq, forall_const, exists_and_left, exists_eq_left', eq_self, Nat.reduceLT, Int.reduceLT, Int.reduceLE, Int.reduceToNat, Int.reduceAdd, Int.reduceSub, Int.reduceNeg, hnm, Try.tf0, Try.tf1, Try.tf3, Try.tf4, Try.tf5, Try.tf9, Try.tf22, Try.tf28, Try.tf33, Try.tf34, Try.tf35, Try.tf43, Try.tf44, Try.tf53, Try.tf65, Try.teq79, Try.call11, Try.call13, Try.call17, Try.call18, Try.call19, Try.call21, Try.call22, Try.call28, Try.call29]); repeat (refine And.intro (by omega) ?_))
    | ((with_reducible first | apply WL_nil | apply W_label | apply W_skip | apply W_exit | apply W_ret); try simp only [seqK, blockK, scopeK, ↓reduceIte, Nat.reduceEqDiff])
    | (with_reducible apply pguard_intro <;> (intro hc; (try simp only [hcb, reduceCtorEq, forall_const, ne_eq] at hc); first | (exfalso; omega) | (exfalso; exact hc trivial) | refine Ev_in ?_))
    | (with_reducible apply W_cond_k; intro _ _ ea eb; (simp only [condK, cob, opnd, constPV, Nat.reduceEqDiff, Nat.reduceLT, ↓reduceIte, hcb, reduceCtorEq, forall_const, ne_eq]); subst ea eb; first | (refine ⟨fun hc => ?_, fun hc => ?_⟩ <;> first | (exfalso; omega) | (exfalso; exact hc trivial) | skip) | skip)
    | (with_reducible apply hnx; clear hnx nx)
    | (with_reducible refine And.intro (by omega) ?_)
    | (with_reducible refine And.intro ?_ ?_)
    | (clear hnx nx; with_reducible apply hnx; clear hnx nx)
    | (clear hnx nx; clear hnx nx; with_reducible apply hnx; clear hnx nx)
    | (clear hnx nx; clear hnx nx; clear hnx nx; with_reducible apply hnx; clear hnx nx))
  · rfl
  with_reducible apply hnx
  clear hnx nx
  refine WL_nd fun nd => ?_
  have hne := two_ne hEb hEa nd
  refine WL_mark (by simp) rfl (by simp [frz, frz1, hne]) (two_frz _ hEb hEa nd) ?_
  clear nd hne
  have s1 : PCalls Try.prog G 11 [.ptr a 0, .list 1 [.val (.int .u8 97)]] Ha _ := send_k G lv1 hEa (by simp) (by simp [newL])
  repeat' (first
    | (with_reducible first | apply W_block | apply W_scope)
    | (with_reducible refine W_prune 14335 ?_; simp only [prb, Nat.reducePow, Nat.reduceDiv, Nat.reduceMod, Nat.reduceBEq]; with_reducible apply W_region_l)
    | ((first | (with_reducible apply WL_op; intro nx hnx) | with_reducible refine Ev_out ?_ | (with_reducible refine pfresh_k hnm fun nm hnm => ?_; (try simp only [fmb] at hnm)) | (with_reducible refine pborn_mu hnm fun nm hnm => ?_; (try simp only [fmb] at hnm))); try (simp (maxSteps := 2000000) (disch := omega) only [evb, evd, pbuiltin, constPV, pnck, seqK, blockK, scopeK, pbin, pun, ppick, plen, piaddr, pindex, pfield, pslice, pbound, pconv, pelems, pextract, pmm, PV.mem?, PV.one, PV.cells, pageq, peqs, peq1, pmakes, pstore, pbytes, pmark, psrc, pkey, pnile, pcap, pgrow, List.set, Value.cells, ↓popG_eq, ↓pop.eq_1, ↓List.getElem?_map, ↓List.getElem?_cons_zero, ↓List.getElem?_cons_succ, Value.oneCell', Nat.reduceAdd, Nat.reduceMul, Nat.reduceSub, Nat.reduceLeDiff, Nat.reduceEqDiff, ↓reduceIte, ne_eq, reduceCtorEq, forall_const, exists_and_left, exists_eq_left', eq_self, Nat.reduceLT, Int.reduceLT, Int.reduceLE, Int.reduceToNat, Int.reduceAdd, Int.reduceSub, Int.reduceNeg, hnm, Try.tf0, Try.tf1, Try.tf3, Try.tf4, Try.tf5, Try.tf9, Try.tf22, Try.tf28, Try.tf33, Try.tf34, Try.tf35, Try.tf43, Try.tf44, Try.tf53, Try.tf65, Try.teq79, Try.call11, Try.call13, Try.call17, Try.call18, Try.call19, Try.call21, Try.call22, Try.call28, Try.call29]); repeat (refine And.intro (by omega) ?_))
    | ((with_reducible first | apply WL_nil | apply W_label | apply W_skip | apply W_exit | apply W_ret); try simp only [seqK, blockK, scopeK, ↓reduceIte, Nat.reduceEqDiff])
    | (with_reducible apply pguard_intro <;> (intro hc; (try simp only [hcb, reduceCtorEq, forall_const, ne_eq] at hc); first | (exfalso; omega) | (exfalso; exact hc trivial) | refine Ev_in ?_))
    | (with_reducible apply W_cond_k; intro _ _ ea eb; (simp only [condK, cob, opnd, constPV, Nat.reduceEqDiff, Nat.reduceLT, ↓reduceIte, hcb, reduceCtorEq, forall_const, ne_eq]); subst ea eb; first | (refine ⟨fun hc => ?_, fun hc => ?_⟩ <;> first | (exfalso; omega) | (exfalso; exact hc trivial) | skip) | skip)
    | (with_reducible apply hnx; clear hnx nx)
    | (with_reducible refine And.intro (by omega) ?_)
    | (with_reducible refine And.intro ?_ ?_)
    | ((refine pcall_mid Hb Ha [] (by simp) s1 ?_; rintro _ Ha1 ⟨rfl, hEa1⟩; refine Ev_in ?_))
    | (clear hnx nx; with_reducible apply hnx; clear hnx nx)
    | (clear hnx nx; clear hnx nx; with_reducible apply hnx; clear hnx nx)
    | (clear hnx nx; clear hnx nx; clear hnx nx; with_reducible apply hnx; clear hnx nx))
  clear hEa s1
  with_reducible apply W_seq_k
  intro nx hnx
  iterate 8 (first
    | (with_reducible apply W_seq_k; intro nx hnx)
    | (with_reducible first | apply W_block | apply W_scope)
    | (with_reducible refine W_prune 14335 ?_; simp only [prb, Nat.reducePow, Nat.reduceDiv, Nat.reduceMod, Nat.reduceBEq]; with_reducible apply W_region_l)
    | ((first | (with_reducible apply WL_op; intro nx hnx) | with_reducible refine Ev_out ?_ | (with_reducible refine pfresh_k hnm fun nm hnm => ?_; (try simp only [fmb] at hnm)) | (with_reducible refine pborn_mu hnm fun nm hnm => ?_; (try simp only [fmb] at hnm))); try (simp (maxSteps := 2000000) (disch := omega) only [evb, evd, pbuiltin, constPV, pnck, seqK, blockK, scopeK, pbin, pun, ppick, plen, piaddr, pindex, pfield, pslice, pbound, pconv, pelems, pextract, pmm, PV.mem?, PV.one, PV.cells, pageq, peqs, peq1, pmakes, pstore, pbytes, pmark, psrc, pkey, pnile, pcap, pgrow, List.set, Value.cells, ↓popG_eq, ↓pop.eq_1, ↓List.getElem?_map, ↓List.getElem?_cons_zero, ↓List.getElem?_cons_succ, Value.oneCell', Nat.reduceAdd, Nat.reduceMul, Nat.reduceSub, Nat.reduceLeDiff, Nat.reduceEqDiff, ↓reduceIte, ne_eq, reduceCtorEq, forall_const, exists_and_left, exists_eq_left', eq_self, Nat.reduceLT, Int.reduceLT, Int.reduceLE, Int.reduceToNat, Int.reduceAdd, Int.reduceSub, Int.reduceNeg, hnm, Try.tf0, Try.tf1, Try.tf3, Try.tf4, Try.tf5, Try.tf9, Try.tf22, Try.tf28, Try.tf33, Try.tf34, Try.tf35, Try.tf43, Try.tf44, Try.tf53, Try.tf65, Try.teq79, Try.call11, Try.call13, Try.call17, Try.call18, Try.call19, Try.call21, Try.call22, Try.call28, Try.call29]); repeat (refine And.intro (by omega) ?_))
    | ((with_reducible first | apply WL_nil | apply W_label | apply W_skip | apply W_exit | apply W_ret); try simp only [seqK, blockK, scopeK, ↓reduceIte, Nat.reduceEqDiff])
    | (with_reducible apply pguard_intro <;> (intro hc; (try simp only [hcb, reduceCtorEq, forall_const, ne_eq] at hc); first | (exfalso; omega) | (exfalso; exact hc trivial) | refine Ev_in ?_))
    | (with_reducible apply W_cond_k; intro _ _ ea eb; (simp only [condK, cob, opnd, constPV, Nat.reduceEqDiff, Nat.reduceLT, ↓reduceIte, hcb, reduceCtorEq, forall_const, ne_eq]); subst ea eb; first | (refine ⟨fun hc => ?_, fun hc => ?_⟩ <;> first | (exfalso; omega) | (exfalso; exact hc trivial) | skip) | skip)
    | (with_reducible apply hnx; clear hnx nx)
    | (with_reducible refine And.intro (by omega) ?_)
    | (with_reducible refine And.intro ?_ ?_)
    | (clear hnx nx; with_reducible apply hnx; clear hnx nx)
    | (clear hnx nx; clear hnx nx; with_reducible apply hnx; clear hnx nx)
    | (clear hnx nx; clear hnx nx; clear hnx nx; with_reducible apply hnx; clear hnx nx))
  · rfl
  with_reducible apply hnx
  clear hnx nx
  refine WL_nd fun nd => ?_
  have hne := two_ne hEb hEa1 nd
  refine WL_mark (by simp) rfl (by simp [frz, frz1, hne]) (two_frz _ hEb hEa1 nd) ?_
  clear nd hne
  have s2 : PCalls Try.prog G 11 [.ptr a 0, .list 1 [.val (.int .u8 98)]] Ha1 _ := send_k G lv2 hEa1 (by simp) (by simp [newL])
  repeat' (first
    | (with_reducible first | apply W_block | apply W_scope)
    | (with_reducible refine W_prune 14335 ?_; simp only [prb, Nat.reducePow, Nat.reduceDiv, Nat.reduceMod, Nat.reduceBEq]; with_reducible apply W_region_l)
    | ((first | (with_reducible apply WL_op; intro nx hnx) | with_reducible refine Ev_out ?_ | (with_reducible refine pfresh_k hnm fun nm hnm => ?_; (try simp only [fmb] at hnm)) | (with_reducible refine pborn_mu hnm fun nm hnm => ?_; (try simp only [fmb] at hnm))); try (simp (maxSteps := 2000000) (disch := omega) only [evb, evd, pbuiltin, constPV, pnck, seqK, blockK, scopeK, pbin, pun, ppick, plen, piaddr, pindex, pfield, pslice, pbound, pconv, pelems, pextract, pmm, PV.mem?, PV.one, PV.cells, pageq, peqs, peq1, pmakes, pstore, pbytes, pmark, psrc, pkey, pnile, pcap, pgrow, List.set, Value.cells, ↓popG_eq, ↓pop.eq_1, ↓List.getElem?_map, ↓List.getElem?_cons_zero, ↓List.getElem?_cons_succ, Value.oneCell', Nat.reduceAdd, Nat.reduceMul, Nat.reduceSub, Nat.reduceLeDiff, Nat.reduceEqDiff, ↓reduceIte, ne_eq, reduceCtorEq, forall_const, exists_and_left, exists_eq_left', eq_self, Nat.reduceLT, Int.reduceLT, Int.reduceLE, Int.reduceToNat, Int.reduceAdd, Int.reduceSub, Int.reduceNeg, hnm, Try.tf0, Try.tf1, Try.tf3, Try.tf4, Try.tf5, Try.tf9, Try.tf22, Try.tf28, Try.tf33, Try.tf34, Try.tf35, Try.tf43, Try.tf44, Try.tf53, Try.tf65, Try.teq79, Try.call11, Try.call13, Try.call17, Try.call18, Try.call19, Try.call21, Try.call22, Try.call28, Try.call29]); repeat (refine And.intro (by omega) ?_))
    | ((with_reducible first | apply WL_nil | apply W_label | apply W_skip | apply W_exit | apply W_ret); try simp only [seqK, blockK, scopeK, ↓reduceIte, Nat.reduceEqDiff])
    | (with_reducible apply pguard_intro <;> (intro hc; (try simp only [hcb, reduceCtorEq, forall_const, ne_eq] at hc); first | (exfalso; omega) | (exfalso; exact hc trivial) | refine Ev_in ?_))
    | (with_reducible apply W_cond_k; intro _ _ ea eb; (simp only [condK, cob, opnd, constPV, Nat.reduceEqDiff, Nat.reduceLT, ↓reduceIte, hcb, reduceCtorEq, forall_const, ne_eq]); subst ea eb; first | (refine ⟨fun hc => ?_, fun hc => ?_⟩ <;> first | (exfalso; omega) | (exfalso; exact hc trivial) | skip) | skip)
    | (with_reducible apply hnx; clear hnx nx)
    | (with_reducible refine And.intro (by omega) ?_)
    | (with_reducible refine And.intro ?_ ?_)
    | ((refine pcall_mid Hb Ha1 [] (by simp) s2 ?_; rintro _ Ha2 ⟨rfl, hEa2⟩; refine Ev_in ?_))
    | (clear hnx nx; with_reducible apply hnx; clear hnx nx)
    | (clear hnx nx; clear hnx nx; with_reducible apply hnx; clear hnx nx)
    | (clear hnx nx; clear hnx nx; clear hnx nx; with_reducible apply hnx; clear hnx nx))
  clear hEa1 s2
  with_reducible apply W_seq_k
  intro nx hnx
  iterate 8 (first
    | (with_reducible apply W_seq_k; intro nx hnx)
    | (with_reducible first | apply W_block | apply W_scope)
    | (with_reducible refine W_prune 14335 ?_; simp only [prb, Nat.reducePow, Nat.reduceDiv, Nat.reduceMod, Nat.reduceBEq]; with_reducible apply W_region_l)
    | ((first | (with_reducible apply WL_op; intro nx hnx) | with_reducible refine Ev_out ?_ | (with_reducible refine pfresh_k hnm fun nm hnm => ?_; (try simp only [fmb] at hnm)) | (with_reducible refine pborn_mu hnm fun nm hnm => ?_; (try simp only [fmb] at hnm))); try (simp (maxSteps := 2000000) (disch := omega) only [evb, evd, pbuiltin, constPV, pnck, seqK, blockK, scopeK, pbin, pun, ppick, plen, piaddr, pindex, pfield, pslice, pbound, pconv, pelems, pextract, pmm, PV.mem?, PV.one, PV.cells, pageq, peqs, peq1, pmakes, pstore, pbytes, pmark, psrc, pkey, pnile, pcap, pgrow, List.set, Value.cells, ↓popG_eq, ↓pop.eq_1, ↓List.getElem?_map, ↓List.getElem?_cons_zero, ↓List.getElem?_cons_succ, Value.oneCell', Nat.reduceAdd, Nat.reduceMul, Nat.reduceSub, Nat.reduceLeDiff, Nat.reduceEqDiff, ↓reduceIte, ne_eq, reduceCtorEq, forall_const, exists_and_left, exists_eq_left', eq_self, Nat.reduceLT, Int.reduceLT, Int.reduceLE, Int.reduceToNat, Int.reduceAdd, Int.reduceSub, Int.reduceNeg, hnm, Try.tf0, Try.tf1, Try.tf3, Try.tf4, Try.tf5, Try.tf9, Try.tf22, Try.tf28, Try.tf33, Try.tf34, Try.tf35, Try.tf43, Try.tf44, Try.tf53, Try.tf65, Try.teq79, Try.call11, Try.call13, Try.call17, Try.call18, Try.call19, Try.call21, Try.call22, Try.call28, Try.call29]); repeat (refine And.intro (by omega) ?_))
    | ((with_reducible first | apply WL_nil | apply W_label | apply W_skip | apply W_exit | apply W_ret); try simp only [seqK, blockK, scopeK, ↓reduceIte, Nat.reduceEqDiff])
    | (with_reducible apply pguard_intro <;> (intro hc; (try simp only [hcb, reduceCtorEq, forall_const, ne_eq] at hc); first | (exfalso; omega) | (exfalso; exact hc trivial) | refine Ev_in ?_))
    | (with_reducible apply W_cond_k; intro _ _ ea eb; (simp only [condK, cob, opnd, constPV, Nat.reduceEqDiff, Nat.reduceLT, ↓reduceIte, hcb, reduceCtorEq, forall_const, ne_eq]); subst ea eb; first | (refine ⟨fun hc => ?_, fun hc => ?_⟩ <;> first | (exfalso; omega) | (exfalso; exact hc trivial) | skip) | skip)
    | (with_reducible apply hnx; clear hnx nx)
    | (with_reducible refine And.intro (by omega) ?_)
    | (with_reducible refine And.intro ?_ ?_)
    | (clear hnx nx; with_reducible apply hnx; clear hnx nx)
    | (clear hnx nx; clear hnx nx; with_reducible apply hnx; clear hnx nx)
    | (clear hnx nx; clear hnx nx; clear hnx nx; with_reducible apply hnx; clear hnx nx))
  · rfl
  with_reducible apply hnx
  clear hnx nx
  refine WL_nd fun nd => ?_
  have hne := two_ne hEb hEa2 nd
  refine WL_mark (by simp) rfl (by simp [frz, frz1, hne]) (two_frz _ hEb hEa2 nd) ?_
  clear nd hne
  have s3 : PCalls Try.prog G 11 [.ptr a 0, .list 1 [.val (.int .u8 99)]] Ha2 _ := send_k G lv3 hEa2 (by simp) (by simp [newL])
  repeat' (first
    | (with_reducible first | apply W_block | apply W_scope)
    | (with_reducible refine W_prune 14335 ?_; simp only [prb, Nat.reducePow, Nat.reduceDiv, Nat.reduceMod, Nat.reduceBEq]; with_reducible apply W_region_l)
    | ((first | (with_reducible apply WL_op; intro nx hnx) | with_reducible refine Ev_out ?_ | (with_reducible refine pfresh_k hnm fun nm hnm => ?_; (try simp only [fmb] at hnm)) | (with_reducible refine pborn_mu hnm fun nm hnm => ?_; (try simp only [fmb] at hnm))); try (simp (maxSteps := 2000000) (disch := omega) only [evb, evd, pbuiltin, constPV, pnck, seqK, blockK, scopeK, pbin, pun, ppick, plen, piaddr, pindex, pfield, pslice, pbound, pconv, pelems, pextract, pmm, PV.mem?, PV.one, PV.cells, pageq, peqs, peq1, pmakes, pstore, pbytes, pmark, psrc, pkey, pnile, pcap, pgrow, List.set, Value.cells, ↓popG_eq, ↓pop.eq_1, ↓List.getElem?_map, ↓List.getElem?_cons_zero, ↓List.getElem?_cons_succ, Value.oneCell', Nat.reduceAdd, Nat.reduceMul, Nat.reduceSub, Nat.reduceLeDiff, Nat.reduceEqDiff, ↓reduceIte, ne_eq, reduceCtorEq, forall_const, exists_and_left, exists_eq_left', eq_self, Nat.reduceLT, Int.reduceLT, Int.reduceLE, Int.reduceToNat, Int.reduceAdd, Int.reduceSub, Int.reduceNeg, hnm, Try.tf0, Try.tf1, Try.tf3, Try.tf4, Try.tf5, Try.tf9, Try.tf22, Try.tf28, Try.tf33, Try.tf34, Try.tf35, Try.tf43, Try.tf44, Try.tf53, Try.tf65, Try.teq79, Try.call11, Try.call13, Try.call17, Try.call18, Try.call19, Try.call21, Try.call22, Try.call28, Try.call29]); repeat (refine And.intro (by omega) ?_))
    | ((with_reducible first | apply WL_nil | apply W_label | apply W_skip | apply W_exit | apply W_ret); try simp only [seqK, blockK, scopeK, ↓reduceIte, Nat.reduceEqDiff])
    | (with_reducible apply pguard_intro <;> (intro hc; (try simp only [hcb, reduceCtorEq, forall_const, ne_eq] at hc); first | (exfalso; omega) | (exfalso; exact hc trivial) | refine Ev_in ?_))
    | (with_reducible apply W_cond_k; intro _ _ ea eb; (simp only [condK, cob, opnd, constPV, Nat.reduceEqDiff, Nat.reduceLT, ↓reduceIte, hcb, reduceCtorEq, forall_const, ne_eq]); subst ea eb; first | (refine ⟨fun hc => ?_, fun hc => ?_⟩ <;> first | (exfalso; omega) | (exfalso; exact hc trivial) | skip) | skip)
    | (with_reducible apply hnx; clear hnx nx)
    | (with_reducible refine And.intro (by omega) ?_)
    | (with_reducible refine And.intro ?_ ?_)
    | ((refine pcall_mid Hb Ha2 [] (by simp) s3 ?_; rintro _ Ha3 ⟨rfl, hEa3⟩; refine Ev_in ?_))
    | (clear hnx nx; with_reducible apply hnx; clear hnx nx)
    | (clear hnx nx; clear hnx nx; with_reducible apply hnx; clear hnx nx)
    | (clear hnx nx; clear hnx nx; clear hnx nx; with_reducible apply hnx; clear hnx nx))
  clear hEa2 s3
  have o1 := out_k G lv4 hEa3 ⟨by decide, by decide, by decide, by decide⟩ (by decide) (by decide)
  simp only [List.map_cons, List.map_nil] at o1
  have q1 := sealP_len 9 1 0 [97] ⟨by omega, by omega⟩ ⟨by omega, by omega⟩ (by simp)
  have q2 := sealP_len 9 2 0 [98] ⟨by omega, by omega⟩ ⟨by omega, by omega⟩ (by simp)
  have q3 := sealP_len 9 0 2 [] ⟨by omega, by omega⟩ ⟨by omega, by omega⟩ (by simp)
  have q4 := sealP_len 9 3 0 [99] ⟨by omega, by omega⟩ ⟨by omega, by omega⟩ (by simp)
  have i1 := in_k G lv5 hEb (by omega) ⟨by decide, by decide, by decide, by decide⟩
  have l6 := lv6
  have l7 := lv7
  have l8 := lv8
  have l9 := lv9
  have w1 := rbytesP_c G 3 0 [99] ⟨by omega, by omega⟩ ⟨by omega, by omega⟩ (by simp)
  have w2 := rseal_c G 9 (packB 3 0 [99]) (by have := packB_len 3 0 [99] ⟨by omega, by omega⟩ ⟨by omega, by omega⟩ (by simp); omega)
  rw [← sealP] at w2
  generalize sealP 9 1 0 [97] = x1 at *
  generalize sealP 9 2 0 [98] = x2 at *
  generalize sealP 9 0 2 [] = x3 at *
  generalize sealP 9 3 0 [99] = x4 at *
  generalize packB 3 0 [99] = x5 at *
  repeat' (first
    | (with_reducible apply W_seq_k; intro nx hnx)
    | (with_reducible first | apply W_block | apply W_scope)
    | (with_reducible refine W_prune 14335 ?_; simp only [prb, Nat.reducePow, Nat.reduceDiv, Nat.reduceMod, Nat.reduceBEq]; with_reducible apply W_region_l)
    | ((first | (with_reducible apply WL_op; intro nx hnx) | with_reducible refine Ev_out ?_ | (with_reducible refine pfresh_k hnm fun nm hnm => ?_; (try simp only [fmb] at hnm)) | (with_reducible refine pborn_mu hnm fun nm hnm => ?_; (try simp only [fmb] at hnm))); try (simp (maxSteps := 2000000) (disch := omega) only [evb, evd, pbuiltin, constPV, pnck, seqK, blockK, scopeK, pbin, pun, ppick, plen, piaddr, pindex, pfield, pslice, pbound, pconv, pelems, pextract, pmm, PV.mem?, PV.one, PV.cells, pageq, peqs, peq1, pmakes, pstore, pbytes, pmark, psrc, pkey, pnile, pcap, pgrow, List.set, Value.cells, ↓popG_eq, ↓pop.eq_1, ↓List.getElem?_map, ↓List.getElem?_cons_zero, ↓List.getElem?_cons_succ, Value.oneCell', Nat.reduceAdd, Nat.reduceMul, Nat.reduceSub, Nat.reduceLeDiff, Nat.reduceEqDiff, ↓reduceIte, ne_eq, reduceCtorEq, forall_const, exists_and_left, exists_eq_left', eq_self, Nat.reduceLT, Int.reduceLT, Int.reduceLE, Int.reduceToNat, Int.reduceAdd, Int.reduceSub, Int.reduceNeg, hnm, Try.tf0, Try.tf1, Try.tf3, Try.tf4, Try.tf5, Try.tf9, Try.tf22, Try.tf28, Try.tf33, Try.tf34, Try.tf35, Try.tf43, Try.tf44, Try.tf53, Try.tf65, Try.teq79, Try.call11, Try.call13, Try.call17, Try.call18, Try.call19, Try.call21, Try.call22, Try.call28, Try.call29]); repeat (refine And.intro (by omega) ?_))
    | ((with_reducible first | apply WL_nil | apply W_label | apply W_skip | apply W_exit | apply W_ret); try simp only [seqK, blockK, scopeK, ↓reduceIte, Nat.reduceEqDiff])
    | (with_reducible apply pguard_intro <;> (intro hc; (try simp only [hcb, reduceCtorEq, forall_const, ne_eq] at hc); first | (exfalso; omega) | (exfalso; exact hc trivial) | refine Ev_in ?_))
    | (with_reducible apply W_cond_k; intro _ _ ea eb; (simp only [condK, cob, opnd, constPV, Nat.reduceEqDiff, Nat.reduceLT, ↓reduceIte, hcb, reduceCtorEq, forall_const, ne_eq]); subst ea eb; first | (refine ⟨fun hc => ?_, fun hc => ?_⟩ <;> first | (exfalso; omega) | (exfalso; exact hc trivial) | skip) | skip)
    | (with_reducible apply hnx; clear hnx nx)
    | (with_reducible refine And.intro (by omega) ?_)
    | (with_reducible refine And.intro ?_ ?_)
    | ((refine pcall_mid Hb Ha3 [] (by simp) o1 ?_; rintro _ Ha4 ⟨rfl, hEa4⟩; refine Ev_in ?_))
    | (clear hnx nx; with_reducible apply hnx; clear hnx nx)
    | (clear hnx nx; clear hnx nx; with_reducible apply hnx; clear hnx nx)
    | (clear hnx nx; clear hnx nx; clear hnx nx; with_reducible apply hnx; clear hnx nx))
  all_goals first
    | (exfalso
       omega)
    | skip
  refine pcall_mid [] Hb Ha4 rfl i1 ?_
  rintro _ Hb1 ⟨rfl, hEHb1⟩
  refine Ev_in ?_
  have i2 := in_k G l6 hEHb1 (by omega) ⟨by decide, by decide, by decide, by decide⟩
  repeat' (first
    | (with_reducible apply W_seq_k; intro nx hnx)
    | (with_reducible first | apply W_block | apply W_scope)
    | (with_reducible refine W_prune 14335 ?_; simp only [prb, Nat.reducePow, Nat.reduceDiv, Nat.reduceMod, Nat.reduceBEq]; with_reducible apply W_region_l)
    | ((first | (with_reducible apply WL_op; intro nx hnx) | with_reducible refine Ev_out ?_ | (with_reducible refine pfresh_k hnm fun nm hnm => ?_; (try simp only [fmb] at hnm)) | (with_reducible refine pborn_mu hnm fun nm hnm => ?_; (try simp only [fmb] at hnm))); try (simp (maxSteps := 2000000) (disch := omega) only [evb, evd, pbuiltin, constPV, pnck, seqK, blockK, scopeK, pbin, pun, ppick, plen, piaddr, pindex, pfield, pslice, pbound, pconv, pelems, pextract, pmm, PV.mem?, PV.one, PV.cells, pageq, peqs, peq1, pmakes, pstore, pbytes, pmark, psrc, pkey, pnile, pcap, pgrow, List.set, Value.cells, ↓popG_eq, ↓pop.eq_1, ↓List.getElem?_map, ↓List.getElem?_cons_zero, ↓List.getElem?_cons_succ, Value.oneCell', Nat.reduceAdd, Nat.reduceMul, Nat.reduceSub, Nat.reduceLeDiff, Nat.reduceEqDiff, ↓reduceIte, ne_eq, reduceCtorEq, forall_const, exists_and_left, exists_eq_left', eq_self, Nat.reduceLT, Int.reduceLT, Int.reduceLE, Int.reduceToNat, Int.reduceAdd, Int.reduceSub, Int.reduceNeg, hnm, Try.tf0, Try.tf1, Try.tf3, Try.tf4, Try.tf5, Try.tf9, Try.tf22, Try.tf28, Try.tf33, Try.tf34, Try.tf35, Try.tf43, Try.tf44, Try.tf53, Try.tf65, Try.teq79, Try.call11, Try.call13, Try.call17, Try.call18, Try.call19, Try.call21, Try.call22, Try.call28, Try.call29]); repeat (refine And.intro (by omega) ?_))
    | ((with_reducible first | apply WL_nil | apply W_label | apply W_skip | apply W_exit | apply W_ret); try simp only [seqK, blockK, scopeK, ↓reduceIte, Nat.reduceEqDiff])
    | (with_reducible apply pguard_intro <;> (intro hc; (try simp only [hcb, reduceCtorEq, forall_const, ne_eq] at hc); first | (exfalso; omega) | (exfalso; exact hc trivial) | refine Ev_in ?_))
    | (with_reducible apply W_cond_k; intro _ _ ea eb; (simp only [condK, cob, opnd, constPV, Nat.reduceEqDiff, Nat.reduceLT, ↓reduceIte, hcb, reduceCtorEq, forall_const, ne_eq]); subst ea eb; first | (refine ⟨fun hc => ?_, fun hc => ?_⟩ <;> first | (exfalso; omega) | (exfalso; exact hc trivial) | skip) | skip)
    | (with_reducible apply hnx; clear hnx nx)
    | (with_reducible refine And.intro (by omega) ?_)
    | (with_reducible refine And.intro ?_ ?_)
    | (clear hnx nx; with_reducible apply hnx; clear hnx nx)
    | (clear hnx nx; clear hnx nx; with_reducible apply hnx; clear hnx nx)
    | (clear hnx nx; clear hnx nx; clear hnx nx; with_reducible apply hnx; clear hnx nx))
  refine pcall_mid [] Hb1 Ha4 rfl i2 ?_
  rintro _ Hb2 ⟨rfl, hEHb2⟩
  refine Ev_in ?_
  have o2 := out_k G l7 hEHb2 ⟨by decide, by decide, by decide, by decide⟩ (by decide) (by decide)
  repeat' (first
    | (with_reducible apply W_seq_k; intro nx hnx)
    | (with_reducible first | apply W_block | apply W_scope)
    | (with_reducible refine W_prune 14335 ?_; simp only [prb, Nat.reducePow, Nat.reduceDiv, Nat.reduceMod, Nat.reduceBEq]; with_reducible apply W_region_l)
    | ((first | (with_reducible apply WL_op; intro nx hnx) | with_reducible refine Ev_out ?_ | (with_reducible refine pfresh_k hnm fun nm hnm => ?_; (try simp only [fmb] at hnm)) | (with_reducible refine pborn_mu hnm fun nm hnm => ?_; (try simp only [fmb] at hnm))); try (simp (maxSteps := 2000000) (disch := omega) only [evb, evd, pbuiltin, constPV, pnck, seqK, blockK, scopeK, pbin, pun, ppick, plen, piaddr, pindex, pfield, pslice, pbound, pconv, pelems, pextract, pmm, PV.mem?, PV.one, PV.cells, pageq, peqs, peq1, pmakes, pstore, pbytes, pmark, psrc, pkey, pnile, pcap, pgrow, List.set, Value.cells, ↓popG_eq, ↓pop.eq_1, ↓List.getElem?_map, ↓List.getElem?_cons_zero, ↓List.getElem?_cons_succ, Value.oneCell', Nat.reduceAdd, Nat.reduceMul, Nat.reduceSub, Nat.reduceLeDiff, Nat.reduceEqDiff, ↓reduceIte, ne_eq, reduceCtorEq, forall_const, exists_and_left, exists_eq_left', eq_self, Nat.reduceLT, Int.reduceLT, Int.reduceLE, Int.reduceToNat, Int.reduceAdd, Int.reduceSub, Int.reduceNeg, hnm, Try.tf0, Try.tf1, Try.tf3, Try.tf4, Try.tf5, Try.tf9, Try.tf22, Try.tf28, Try.tf33, Try.tf34, Try.tf35, Try.tf43, Try.tf44, Try.tf53, Try.tf65, Try.teq79, Try.call11, Try.call13, Try.call17, Try.call18, Try.call19, Try.call21, Try.call22, Try.call28, Try.call29]); repeat (refine And.intro (by omega) ?_))
    | ((with_reducible first | apply WL_nil | apply W_label | apply W_skip | apply W_exit | apply W_ret); try simp only [seqK, blockK, scopeK, ↓reduceIte, Nat.reduceEqDiff])
    | (with_reducible apply pguard_intro <;> (intro hc; (try simp only [hcb, reduceCtorEq, forall_const, ne_eq] at hc); first | (exfalso; omega) | (exfalso; exact hc trivial) | refine Ev_in ?_))
    | (with_reducible apply W_cond_k; intro _ _ ea eb; (simp only [condK, cob, opnd, constPV, Nat.reduceEqDiff, Nat.reduceLT, ↓reduceIte, hcb, reduceCtorEq, forall_const, ne_eq]); subst ea eb; first | (refine ⟨fun hc => ?_, fun hc => ?_⟩ <;> first | (exfalso; omega) | (exfalso; exact hc trivial) | skip) | skip)
    | (with_reducible apply hnx; clear hnx nx)
    | (with_reducible refine And.intro (by omega) ?_)
    | (with_reducible refine And.intro ?_ ?_)
    | (clear hnx nx; with_reducible apply hnx; clear hnx nx)
    | (clear hnx nx; clear hnx nx; with_reducible apply hnx; clear hnx nx)
    | (clear hnx nx; clear hnx nx; clear hnx nx; with_reducible apply hnx; clear hnx nx))
  refine pcall_mid [] Hb2 Ha4 rfl o2 ?_
  rintro _ Hb3 ⟨rfl, hEHb3⟩
  refine Ev_in ?_
  have i3 := in_k G l8 hEa4 (by omega) ⟨by decide, by decide, by decide, by decide⟩
  repeat' (first
    | (with_reducible apply W_seq_k; intro nx hnx)
    | (with_reducible first | apply W_block | apply W_scope)
    | (with_reducible refine W_prune 14335 ?_; simp only [prb, Nat.reducePow, Nat.reduceDiv, Nat.reduceMod, Nat.reduceBEq]; with_reducible apply W_region_l)
    | ((first | (with_reducible apply WL_op; intro nx hnx) | with_reducible refine Ev_out ?_ | (with_reducible refine pfresh_k hnm fun nm hnm => ?_; (try simp only [fmb] at hnm)) | (with_reducible refine pborn_mu hnm fun nm hnm => ?_; (try simp only [fmb] at hnm))); try (simp (maxSteps := 2000000) (disch := omega) only [evb, evd, pbuiltin, constPV, pnck, seqK, blockK, scopeK, pbin, pun, ppick, plen, piaddr, pindex, pfield, pslice, pbound, pconv, pelems, pextract, pmm, PV.mem?, PV.one, PV.cells, pageq, peqs, peq1, pmakes, pstore, pbytes, pmark, psrc, pkey, pnile, pcap, pgrow, List.set, Value.cells, ↓popG_eq, ↓pop.eq_1, ↓List.getElem?_map, ↓List.getElem?_cons_zero, ↓List.getElem?_cons_succ, Value.oneCell', Nat.reduceAdd, Nat.reduceMul, Nat.reduceSub, Nat.reduceLeDiff, Nat.reduceEqDiff, ↓reduceIte, ne_eq, reduceCtorEq, forall_const, exists_and_left, exists_eq_left', eq_self, Nat.reduceLT, Int.reduceLT, Int.reduceLE, Int.reduceToNat, Int.reduceAdd, Int.reduceSub, Int.reduceNeg, hnm, Try.tf0, Try.tf1, Try.tf3, Try.tf4, Try.tf5, Try.tf9, Try.tf22, Try.tf28, Try.tf33, Try.tf34, Try.tf35, Try.tf43, Try.tf44, Try.tf53, Try.tf65, Try.teq79, Try.call11, Try.call13, Try.call17, Try.call18, Try.call19, Try.call21, Try.call22, Try.call28, Try.call29]); repeat (refine And.intro (by omega) ?_))
    | ((with_reducible first | apply WL_nil | apply W_label | apply W_skip | apply W_exit | apply W_ret); try simp only [seqK, blockK, scopeK, ↓reduceIte, Nat.reduceEqDiff])
    | (with_reducible apply pguard_intro <;> (intro hc; (try simp only [hcb, reduceCtorEq, forall_const, ne_eq] at hc); first | (exfalso; omega) | (exfalso; exact hc trivial) | refine Ev_in ?_))
    | (with_reducible apply W_cond_k; intro _ _ ea eb; (simp only [condK, cob, opnd, constPV, Nat.reduceEqDiff, Nat.reduceLT, ↓reduceIte, hcb, reduceCtorEq, forall_const, ne_eq]); subst ea eb; first | (refine ⟨fun hc => ?_, fun hc => ?_⟩ <;> first | (exfalso; omega) | (exfalso; exact hc trivial) | skip) | skip)
    | (with_reducible apply hnx; clear hnx nx)
    | (with_reducible refine And.intro (by omega) ?_)
    | (with_reducible refine And.intro ?_ ?_)
    | (clear hnx nx; with_reducible apply hnx; clear hnx nx)
    | (clear hnx nx; clear hnx nx; with_reducible apply hnx; clear hnx nx)
    | (clear hnx nx; clear hnx nx; clear hnx nx; with_reducible apply hnx; clear hnx nx))
  all_goals first
    | exact absurd trivial hc
    | exact isByte_pbyte _
    | exact (rfl : Try.prog.underlying 5 = some (TypeDesc.int IntKind.u8))
    | (exfalso
       omega)
    | (exfalso
       revert hc
       decide)
    | skip
  refine pcall_mid Hb3 Ha4 [] (by simp) i3 ?_
  rintro _ Ha5 ⟨rfl, hEa5⟩
  refine Ev_in ?_
  have o3 := out_k G l9 hEa5 ⟨by decide, by decide, by decide, by decide⟩ (by decide) (by decide)
  repeat' (first
    | (with_reducible apply W_seq_k; intro nx hnx)
    | (with_reducible first | apply W_block | apply W_scope)
    | (with_reducible refine W_prune 14335 ?_; simp only [prb, Nat.reducePow, Nat.reduceDiv, Nat.reduceMod, Nat.reduceBEq]; with_reducible apply W_region_l)
    | ((first | (with_reducible apply WL_op; intro nx hnx) | with_reducible refine Ev_out ?_ | (with_reducible refine pfresh_k hnm fun nm hnm => ?_; (try simp only [fmb] at hnm)) | (with_reducible refine pborn_mu hnm fun nm hnm => ?_; (try simp only [fmb] at hnm))); try (simp (maxSteps := 2000000) (disch := omega) only [evb, evd, pbuiltin, constPV, pnck, seqK, blockK, scopeK, pbin, pun, ppick, plen, piaddr, pindex, pfield, pslice, pbound, pconv, pelems, pextract, pmm, PV.mem?, PV.one, PV.cells, pageq, peqs, peq1, pmakes, pstore, pbytes, pmark, psrc, pkey, pnile, pcap, pgrow, List.set, Value.cells, ↓popG_eq, ↓pop.eq_1, ↓List.getElem?_map, ↓List.getElem?_cons_zero, ↓List.getElem?_cons_succ, Value.oneCell', Nat.reduceAdd, Nat.reduceMul, Nat.reduceSub, Nat.reduceLeDiff, Nat.reduceEqDiff, ↓reduceIte, ne_eq, reduceCtorEq, forall_const, exists_and_left, exists_eq_left', eq_self, Nat.reduceLT, Int.reduceLT, Int.reduceLE, Int.reduceToNat, Int.reduceAdd, Int.reduceSub, Int.reduceNeg, hnm, Try.tf0, Try.tf1, Try.tf3, Try.tf4, Try.tf5, Try.tf9, Try.tf22, Try.tf28, Try.tf33, Try.tf34, Try.tf35, Try.tf43, Try.tf44, Try.tf53, Try.tf65, Try.teq79, Try.call11, Try.call13, Try.call17, Try.call18, Try.call19, Try.call21, Try.call22, Try.call28, Try.call29]); repeat (refine And.intro (by omega) ?_))
    | ((with_reducible first | apply WL_nil | apply W_label | apply W_skip | apply W_exit | apply W_ret); try simp only [seqK, blockK, scopeK, ↓reduceIte, Nat.reduceEqDiff])
    | (with_reducible apply pguard_intro <;> (intro hc; (try simp only [hcb, reduceCtorEq, forall_const, ne_eq] at hc); first | (exfalso; omega) | (exfalso; exact hc trivial) | refine Ev_in ?_))
    | (with_reducible apply W_cond_k; intro _ _ ea eb; (simp only [condK, cob, opnd, constPV, Nat.reduceEqDiff, Nat.reduceLT, ↓reduceIte, hcb, reduceCtorEq, forall_const, ne_eq]); subst ea eb; first | (refine ⟨fun hc => ?_, fun hc => ?_⟩ <;> first | (exfalso; omega) | (exfalso; exact hc trivial) | skip) | skip)
    | (with_reducible apply hnx; clear hnx nx)
    | (with_reducible refine And.intro (by omega) ?_)
    | (with_reducible refine And.intro ?_ ?_)
    | (clear hnx nx; with_reducible apply hnx; clear hnx nx)
    | (clear hnx nx; clear hnx nx; with_reducible apply hnx; clear hnx nx)
    | (clear hnx nx; clear hnx nx; clear hnx nx; with_reducible apply hnx; clear hnx nx))
  refine pcall_mid Hb3 Ha5 [] (by simp) o3 ?_
  rintro _ Ha6 ⟨rfl, hEa6⟩
  refine Ev_in ?_
  repeat' (first
    | (with_reducible first | apply W_block | apply W_scope)
    | (with_reducible refine W_prune 14335 ?_; simp only [prb, Nat.reducePow, Nat.reduceDiv, Nat.reduceMod, Nat.reduceBEq]; with_reducible apply W_region_l)
    | ((first | (with_reducible apply WL_op; intro nx hnx) | with_reducible refine Ev_out ?_ | (with_reducible refine pfresh_k hnm fun nm hnm => ?_; (try simp only [fmb] at hnm)) | (with_reducible refine pborn_mu hnm fun nm hnm => ?_; (try simp only [fmb] at hnm))); try (simp (maxSteps := 2000000) (disch := omega) only [evb, evd, pbuiltin, constPV, pnck, seqK, blockK, scopeK, pbin, pun, ppick, plen, piaddr, pindex, pfield, pslice, pbound, pconv, pelems, pextract, pmm, PV.mem?, PV.one, PV.cells, pageq, peqs, peq1, pmakes, pstore, pbytes, pmark, psrc, pkey, pnile, pcap, pgrow, List.set, Value.cells, ↓popG_eq, ↓pop.eq_1, ↓List.getElem?_map, ↓List.getElem?_cons_zero, ↓List.getElem?_cons_succ, Value.oneCell', Nat.reduceAdd, Nat.reduceMul, Nat.reduceSub, Nat.reduceLeDiff, Nat.reduceEqDiff, ↓reduceIte, ne_eq, reduceCtorEq, forall_const, exists_and_left, exists_eq_left', eq_self, Nat.reduceLT, Int.reduceLT, Int.reduceLE, Int.reduceToNat, Int.reduceAdd, Int.reduceSub, Int.reduceNeg, hnm, Try.tf0, Try.tf1, Try.tf3, Try.tf4, Try.tf5, Try.tf9, Try.tf22, Try.tf28, Try.tf33, Try.tf34, Try.tf35, Try.tf43, Try.tf44, Try.tf53, Try.tf65, Try.teq79, Try.call11, Try.call13, Try.call17, Try.call18, Try.call19, Try.call21, Try.call22, Try.call28, Try.call29]); repeat (refine And.intro (by omega) ?_))
    | ((with_reducible first | apply WL_nil | apply W_label | apply W_skip | apply W_exit | apply W_ret); try simp only [seqK, blockK, scopeK, ↓reduceIte, Nat.reduceEqDiff])
    | (with_reducible apply pguard_intro <;> (intro hc; (try simp only [hcb, reduceCtorEq, forall_const, ne_eq] at hc); first | (exfalso; omega) | (exfalso; exact hc trivial) | refine Ev_in ?_))
    | (with_reducible apply W_cond_k; intro _ _ ea eb; (simp only [condK, cob, opnd, constPV, Nat.reduceEqDiff, Nat.reduceLT, ↓reduceIte, hcb, reduceCtorEq, forall_const, ne_eq]); subst ea eb; first | (refine ⟨fun hc => ?_, fun hc => ?_⟩ <;> first | (exfalso; omega) | (exfalso; exact hc trivial) | skip) | skip)
    | (with_reducible apply hnx; clear hnx nx)
    | (with_reducible refine And.intro (by omega) ?_)
    | (with_reducible refine And.intro ?_ ?_)
    | (clear hnx nx; with_reducible apply hnx; clear hnx nx)
    | (clear hnx nx; clear hnx nx; with_reducible apply hnx; clear hnx nx)
    | (clear hnx nx; clear hnx nx; clear hnx nx; with_reducible apply hnx; clear hnx nx))
  with_reducible apply W_seq_k
  intro nx hnx
  iterate 6 (first
    | (with_reducible apply W_seq_k; intro nx hnx)
    | (with_reducible first | apply W_block | apply W_scope)
    | (with_reducible refine W_prune 14335 ?_; simp only [prb, Nat.reducePow, Nat.reduceDiv, Nat.reduceMod, Nat.reduceBEq]; with_reducible apply W_region_l)
    | ((first | (with_reducible apply WL_op; intro nx hnx) | with_reducible refine Ev_out ?_ | (with_reducible refine pfresh_k hnm fun nm hnm => ?_; (try simp only [fmb] at hnm)) | (with_reducible refine pborn_mu hnm fun nm hnm => ?_; (try simp only [fmb] at hnm))); try (simp (maxSteps := 2000000) (disch := omega) only [evb, evd, pbuiltin, constPV, pnck, seqK, blockK, scopeK, pbin, pun, ppick, plen, piaddr, pindex, pfield, pslice, pbound, pconv, pelems, pextract, pmm, PV.mem?, PV.one, PV.cells, pageq, peqs, peq1, pmakes, pstore, pbytes, pmark, psrc, pkey, pnile, pcap, pgrow, List.set, Value.cells, ↓popG_eq, ↓pop.eq_1, ↓List.getElem?_map, ↓List.getElem?_cons_zero, ↓List.getElem?_cons_succ, Value.oneCell', Nat.reduceAdd, Nat.reduceMul, Nat.reduceSub, Nat.reduceLeDiff, Nat.reduceEqDiff, ↓reduceIte, ne_eq, reduceCtorEq, forall_const, exists_and_left, exists_eq_left', eq_self, Nat.reduceLT, Int.reduceLT, Int.reduceLE, Int.reduceToNat, Int.reduceAdd, Int.reduceSub, Int.reduceNeg, hnm, Try.tf0, Try.tf1, Try.tf3, Try.tf4, Try.tf5, Try.tf9, Try.tf22, Try.tf28, Try.tf33, Try.tf34, Try.tf35, Try.tf43, Try.tf44, Try.tf53, Try.tf65, Try.teq79, Try.call11, Try.call13, Try.call17, Try.call18, Try.call19, Try.call21, Try.call22, Try.call28, Try.call29]); repeat (refine And.intro (by omega) ?_))
    | ((with_reducible first | apply WL_nil | apply W_label | apply W_skip | apply W_exit | apply W_ret); try simp only [seqK, blockK, scopeK, ↓reduceIte, Nat.reduceEqDiff])
    | (with_reducible apply pguard_intro <;> (intro hc; (try simp only [hcb, reduceCtorEq, forall_const, ne_eq] at hc); first | (exfalso; omega) | (exfalso; exact hc trivial) | refine Ev_in ?_))
    | (with_reducible apply W_cond_k; intro _ _ ea eb; (simp only [condK, cob, opnd, constPV, Nat.reduceEqDiff, Nat.reduceLT, ↓reduceIte, hcb, reduceCtorEq, forall_const, ne_eq]); subst ea eb; first | (refine ⟨fun hc => ?_, fun hc => ?_⟩ <;> first | (exfalso; omega) | (exfalso; exact hc trivial) | skip) | skip)
    | (with_reducible apply hnx; clear hnx nx)
    | (with_reducible refine And.intro (by omega) ?_)
    | (with_reducible refine And.intro ?_ ?_)
    | (clear hnx nx; with_reducible apply hnx; clear hnx nx)
    | (clear hnx nx; clear hnx nx; with_reducible apply hnx; clear hnx nx)
    | (clear hnx nx; clear hnx nx; clear hnx nx; with_reducible apply hnx; clear hnx nx))
  · rfl
  with_reducible apply hnx
  clear hnx nx
  refine WL_nd fun nd => ?_
  have hne := two_ne hEHb3 hEa6 nd
  refine WL_mark (by simp) rfl (by simp [frz, frz1, hne]) (two_frz _ hEHb3 hEa6 nd) ?_
  clear nd hne
  have w1 : PCalls Try.prog G 18 [.agg [.val (.int .i64 3), .val (.int .i64 0), .list 1 [.val (.int .u8 99)]]] [] _ := w1
  have w2 : PCalls Try.prog G 17 [.val (.int .u64 9), pl x5] [] _ := w2
  have m1 := same_c G x4 x4 (by omega)
  rw [decide_eq_true rfl] at m1
  have wt := waiting_c G a _ Ha6 hEa6
  have wf := forged_c G a _ Ha6 hEa6
  simp only [List.length_cons, List.length_nil] at wt wf
  repeat' (first
    | (with_reducible apply W_seq_k; intro nx hnx)
    | (with_reducible first | apply W_block | apply W_scope)
    | (with_reducible refine W_prune 14335 ?_; simp only [prb, Nat.reducePow, Nat.reduceDiv, Nat.reduceMod, Nat.reduceBEq]; with_reducible apply W_region_l)
    | ((first | (with_reducible apply WL_op; intro nx hnx) | with_reducible refine Ev_out ?_ | (with_reducible refine pfresh_k hnm fun nm hnm => ?_; (try simp only [fmb] at hnm)) | (with_reducible refine pborn_mu hnm fun nm hnm => ?_; (try simp only [fmb] at hnm))); try (simp (maxSteps := 2000000) (disch := omega) only [evb, evd, pbuiltin, constPV, pnck, seqK, blockK, scopeK, pbin, pun, ppick, plen, piaddr, pindex, pfield, pslice, pbound, pconv, pelems, pextract, pmm, PV.mem?, PV.one, PV.cells, pageq, peqs, peq1, pmakes, pstore, pbytes, pmark, psrc, pkey, pnile, pcap, pgrow, List.set, Value.cells, ↓popG_eq, ↓pop.eq_1, ↓List.getElem?_map, ↓List.getElem?_cons_zero, ↓List.getElem?_cons_succ, Value.oneCell', Nat.reduceAdd, Nat.reduceMul, Nat.reduceSub, Nat.reduceLeDiff, Nat.reduceEqDiff, ↓reduceIte, ne_eq, reduceCtorEq, forall_const, exists_and_left, exists_eq_left', eq_self, Nat.reduceLT, Int.reduceLT, Int.reduceLE, Int.reduceToNat, Int.reduceAdd, Int.reduceSub, Int.reduceNeg, hnm, Try.tf0, Try.tf1, Try.tf3, Try.tf4, Try.tf5, Try.tf9, Try.tf22, Try.tf28, Try.tf33, Try.tf34, Try.tf35, Try.tf43, Try.tf44, Try.tf53, Try.tf65, Try.teq79, Try.call11, Try.call13, Try.call17, Try.call18, Try.call19, Try.call21, Try.call22, Try.call28, Try.call29]); repeat (refine And.intro (by omega) ?_))
    | ((with_reducible first | apply WL_nil | apply W_label | apply W_skip | apply W_exit | apply W_ret); try simp only [seqK, blockK, scopeK, ↓reduceIte, Nat.reduceEqDiff])
    | (with_reducible apply pguard_intro <;> (intro hc; (try simp only [hcb, reduceCtorEq, forall_const, ne_eq] at hc); first | (exfalso; omega) | (exfalso; exact hc trivial) | refine Ev_in ?_))
    | (with_reducible apply W_cond_k; intro _ _ ea eb; (simp only [condK, cob, opnd, constPV, Nat.reduceEqDiff, Nat.reduceLT, ↓reduceIte, hcb, reduceCtorEq, forall_const, ne_eq]); subst ea eb; first | (refine ⟨fun hc => ?_, fun hc => ?_⟩ <;> first | (exfalso; omega) | (exfalso; exact hc trivial) | skip) | skip)
    | (with_reducible apply hnx; clear hnx nx)
    | (with_reducible refine And.intro (by omega) ?_)
    | (with_reducible refine And.intro ?_ ?_)
    | (with_reducible refine pcall_k (w1) ?_; rintro _ _ ⟨rfl, rfl⟩ -; refine Ev_in ?_)
    | (with_reducible refine pcall_k (w2) ?_; rintro _ _ ⟨rfl, rfl⟩ -; refine Ev_in ?_)
    | (with_reducible refine pcall_k (m1) ?_; rintro _ _ ⟨rfl, rfl⟩ -; refine Ev_in ?_)
    | (((with_reducible refine pcall_mid Hb3 Ha6 [] ?_ wt ?_); (· simp); rintro _ H' ⟨rfl, hq⟩; rw [hq]; clear hq; refine Ev_in ?_))
    | (((with_reducible refine pcall_mid Hb3 Ha6 [] ?_ wf ?_); (· simp); rintro _ H' ⟨rfl, hq⟩; rw [hq]; clear hq; refine Ev_in ?_))
    | (clear hnx nx; with_reducible apply hnx; clear hnx nx)
    | (clear hnx nx; clear hnx nx; with_reducible apply hnx; clear hnx nx)
    | (clear hnx nx; clear hnx nx; clear hnx nx; with_reducible apply hnx; clear hnx nx))
  all_goals first
    | exact absurd trivial hc
    | (exfalso
       revert hc
       decide)
    | (refine hfin _ _ (Fin_ret1 rfl (Sub_nil _) ?_); simp only [List.getD_cons_zero, List.getD_cons_succ, fr_getD_cons, fr_getD_nil, Nat.reduceEqDiff, Nat.reduceLT, ↓reduceIte]; first | trivial | exact ⟨rfl, by trivial⟩ | (simp; done) | (simp; omega))
end Go.PM

namespace Go.PM
open Go.Proofs
attribute [local irreducible] W PCalls pcall pcallI WL
end Go.PM

namespace Go.PM
open Go.Proofs
section
variable {P : Program} {G : Globs} {I : List Int}
/-- The one heap is in the other, in whatever order. -/
def Hs (H' H : Heap) : Prop := ∃ r, H.Perm (H' ++ r)
theorem Hs.refl (H : Heap) : Hs H H := ⟨[], by simp⟩
theorem Hs.sub {H' H : Heap} (h : Hs H' H) (nd : (names H).Nodup) : Sub H' H := by
  obtain ⟨r, hr⟩ := h
  have h2 : (names (H' ++ r)).Nodup := (List.Perm.nodup_iff (List.Perm.map _ hr)).1 nd
  simp only [names, List.map_append] at h2
  exact ⟨fun x hx => hr.mem_iff.2 (List.mem_append_left _ hx), (List.nodup_append.1 h2).1⟩
theorem Hs.skip {H' H : Heap} (x : Int × PObj) (h : Hs H' H) : Hs H' (x :: H) := by
  obtain ⟨r, hr⟩ := h
  exact ⟨x :: r, (List.Perm.cons x hr).trans List.perm_middle.symm⟩
theorem Hs.cons {H' H : Heap} (x : Int × PObj) (h : Hs H' H) : Hs (x :: H') (x :: H) := by
  obtain ⟨r, hr⟩ := h
  exact ⟨r, List.Perm.cons x hr⟩
theorem Hs.perm {H' H : Heap} (h : H.Perm H') : Hs H' H := ⟨[], by simpa using h⟩
/-- The frame says what is asked, and the heap is the one, in whatever order, perhaps with more. -/
def At (σ τ : PState) : Prop := wkF σ.frame τ.frame ∧ Hs τ.heap σ.heap
theorem At.wk {σ τ : PState} (h : At σ τ) (nd : (names σ.heap).Nodup) : Wk σ τ := ⟨h.1, h.2.sub nd⟩
theorem W_at {c : Code} {K : Exit → PState → Prop} {σ τ : PState} (h : At σ τ) (hw : W P G I c τ K) : W P G I c σ K := W_nd fun nd => W_wk (h.wk nd) hw
theorem At_fr {n : Nat} {l l' : List (Nat × PV)} {H H' : Heap} (h : ∀ x ∈ l', (fr n l).getD x.1 .junk = x.2) (hs : Hs H' H) : At ⟨fr n l, H⟩ ⟨fr n l', H'⟩ := ⟨wkF_fr h, hs⟩
theorem W_loop_at {c : Code} {K : Exit → PState → Prop} {σ : PState} (R : Nat → PState → Prop) (n0 : Nat) (τ0 : PState) (hw : At σ τ0) (h0 : R n0 τ0)
    (round : ∀ n τ, R n τ → ∀ lp : PState → Prop, (∀ σ'' n' τ', n' < n → At σ'' τ' → R n' τ' → lp σ'') → W P G I c τ (seqK lp K)) : W P G I (.loop c) σ K := by
  refine W_at hw (W_loop (fun n σ' => ∃ τ, At σ' τ ∧ R n τ) n0 ⟨τ0, ⟨wkF_refl _, Hs.refl _⟩, h0⟩ ?_)
  rintro n σ' ⟨τ, ha, hr⟩
  exact W_at ha (round n τ hr _ fun σ'' n' τ' hlt ha' hr' => ⟨n', hlt, τ', ha', hr'⟩)
end
section
variable {P : Program} {G : Globs} {f : List PV} {x y : Int × PObj} {A B C D : Heap} {fn : FuncId} {args : List PV} {R : PV → Heap → Prop} {d : Option Tmp} {K : PState → Prop}
end
structure RunI (i : Nat) (key : UInt64) (ra rb : RE) (sent : List (List UInt8)) (to : List Nat) : Prop where
  a : RunE i key ra
  b : RunE i key rb
  len : sent.length ≤ 16 * i
  tolen : to.length = sent.length
  pk : ∀ p ∈ sent, 12 ≤ p.length ∧ p.length ≤ 200000
  two : ∀ t ∈ to, t < 2
@[reducible] def pn (k : Nat) : PV := pint .i64 k
theorem byte_u8 (x : Int) : ∃ u : UInt8, IntKind.u8.wrap x = (u.toNat : Int) := by
  have h1 : IntKind.u8.wrap x = x % 256 := by
    simp [IntKind.wrap, IntKind.bits, IntKind.signed]
  refine ⟨UInt8.ofNat (x % 256).toNat, ?_⟩
  rw [h1, UInt8.toNat_ofNat']
  omega
attribute [local irreducible] W PCalls pcall pcallI WL
end Go.PM

namespace Go.PM
open Go.Proofs
attribute [local irreducible] W PCalls pcall pcallI WL
end Go.PM

namespace Go.PM
open Go.Proofs
attribute [local irreducible] W PCalls pcall pcallI WL
end Go.PM

namespace Go.PM
open Go.Proofs
attribute [local irreducible] W PCalls pcall pcallI WL
end Go.PM

namespace Go.PM
open Go.Proofs
attribute [local irreducible] W PCalls pcall pcallI WL
end Go.PM

namespace Go.PM
open Go.Proofs
theorem look_in {H : Heap} {n : Int} {o : PObj} (h : (n, o) ∈ H) (nd : (names H).Nodup) : look H n = some o := by
  induction H with
  | nil => cases h
  | cons x r ih =>
    obtain ⟨m, q⟩ := x
    simp only [names, List.map_cons, List.nodup_cons] at nd
    rcases List.mem_cons.1 h with h | h
    · cases h
      simp only [look, if_true]
    · have hne : ¬ m = n := fun e => nd.1 (e ▸ List.mem_map.2 ⟨_, h, rfl⟩)
      simp only [look, if_neg hne]
      exact ih h nd.2
/-- An end's cells. -/
@[reducible] def endC (w m : Int) (s : LE) : List PV := [pint .i64 s.win, pq s.key, .row w 1 s.wait.length, pint .i64 s.acked, pint .i64 s.got, .mp m, pbool s.owing, pint .i64 s.forged]
attribute [local irreducible] W PCalls pcall pcallI WL
set_option maxRecDepth 100000 in
set_option maxHeartbeats 8000000 in
theorem waiting_i (G : Globs) (w m : Int) (s : LE) : PCalls Try.prog G 21 [.iptr (endC w m s) 0] [] (fun res H => res = pint .i64 s.wait.length ∧ H = []) := by
  (refine PCalls_f Try.func21 rfl Try.ntmps21 Try.results21 (by simp) fun fin hfin => ?_; have hnm : True := trivial; simp (maxSteps := 2000000) (disch := omega) only [evb, evd, pbuiltin, constPV, pnck, seqK, blockK, scopeK, pbin, pun, ppick, plen, piaddr, pindex, pfield, pslice, pbound, pconv, pelems, pextract, pmm, PV.mem?, PV.one, PV.cells, pageq, peqs, peq1, pmakes, pstore, pbytes, pmark, psrc, pkey, pnile, pcap, pgrow, List.set, Value.cells, ↓popG_eq, ↓pop.eq_1, ↓List.getElem?_map, ↓List.getElem?_cons_zero, ↓List.getElem?_cons_succ, Value.oneCell', Nat.reduceAdd, Nat.reduceMul, Nat.reduceSub, Nat.reduceLeDiff, Nat.reduceEqDiff, ↓reduceIte, ne_eq, reduceCtorEq, forall_const, exists_and_left, exists_eq_left', eq_self, Nat.reduceLT, Int.reduceLT, Int.reduceLE, Int.reduceToNat, Int.reduceAdd, Int.reduceSub, Int.reduceNeg, hnm, Try.tf0, Try.tf2, Try.tf3, Try.tf5, Try.tf28, Try.tf33, Try.tf35, Try.tf65, Try.teq79])
  repeat' (first
    | (with_reducible apply W_seq_k; intro nx hnx)
    | (with_reducible first | apply W_block | apply W_scope)
    | (with_reducible refine W_prune 5 ?_; simp only [prb, Nat.reducePow, Nat.reduceDiv, Nat.reduceMod, Nat.reduceBEq]; with_reducible apply W_region_l)
    | ((first | (with_reducible apply WL_op; intro nx hnx) | with_reducible refine Ev_out ?_); try (simp (maxSteps := 2000000) (disch := omega) only [evb, evd, pbuiltin, constPV, pnck, seqK, blockK, scopeK, pbin, pun, ppick, plen, piaddr, pindex, pfield, pslice, pbound, pconv, pelems, pextract, pmm, PV.mem?, PV.one, PV.cells, pageq, peqs, peq1, pmakes, pstore, pbytes, pmark, psrc, pkey, pnile, pcap, pgrow, List.set, Value.cells, ↓popG_eq, ↓pop.eq_1, ↓List.getElem?_map, ↓List.getElem?_cons_zero, ↓List.getElem?_cons_succ, Value.oneCell', Nat.reduceAdd, Nat.reduceMul, Nat.reduceSub, Nat.reduceLeDiff, Nat.reduceEqDiff, ↓reduceIte, ne_eq, reduceCtorEq, forall_const, exists_and_left, exists_eq_left', eq_self, Nat.reduceLT, Int.reduceLT, Int.reduceLE, Int.reduceToNat, Int.reduceAdd, Int.reduceSub, Int.reduceNeg, hnm, Try.tf0, Try.tf2, Try.tf3, Try.tf5, Try.tf28, Try.tf33, Try.tf35, Try.tf65, Try.teq79]); repeat (refine And.intro (by omega) ?_))
    | ((with_reducible first | apply WL_nil | apply W_label | apply W_skip | apply W_exit | apply W_ret); try simp only [seqK, blockK, scopeK, ↓reduceIte, Nat.reduceEqDiff])
    | (with_reducible apply W_cond_k; intro _ _ ea eb; (simp only [condK, cob, opnd, constPV, Nat.reduceEqDiff, Nat.reduceLT, ↓reduceIte, hcb, reduceCtorEq, forall_const, ne_eq]); subst ea eb; first | (refine ⟨fun hc => ?_, fun hc => ?_⟩ <;> first | (exfalso; omega) | (exfalso; exact hc trivial) | skip) | skip)
    | (with_reducible apply hnx; clear hnx nx)
    | (with_reducible refine And.intro (by omega) ?_)
    | (with_reducible refine And.intro ?_ ?_)
    | (clear hnx nx; with_reducible apply hnx; clear hnx nx)
    | (clear hnx nx; clear hnx nx; with_reducible apply hnx; clear hnx nx)
    | (clear hnx nx; clear hnx nx; clear hnx nx; with_reducible apply hnx; clear hnx nx))
  refine hfin _ _ (Fin_ret1 rfl (Sub_nil _) ?_); simp only [List.getD_cons_zero, List.getD_cons_succ, fr_getD_cons, fr_getD_nil, Nat.reduceEqDiff, Nat.reduceLT, ↓reduceIte]
  exact ⟨by trivial, by trivial⟩
set_option maxRecDepth 100000 in
set_option maxHeartbeats 8000000 in
theorem forged_i (G : Globs) (w m : Int) (s : LE) : PCalls Try.prog G 22 [.iptr (endC w m s) 0] [] (fun res H => res = pint .i64 s.forged ∧ H = []) := by
  (refine PCalls_f Try.func22 rfl Try.ntmps22 Try.results22 (by simp) fun fin hfin => ?_; have hnm : True := trivial; simp (maxSteps := 2000000) (disch := omega) only [evb, evd, pbuiltin, constPV, pnck, seqK, blockK, scopeK, pbin, pun, ppick, plen, piaddr, pindex, pfield, pslice, pbound, pconv, pelems, pextract, pmm, PV.mem?, PV.one, PV.cells, pageq, peqs, peq1, pmakes, pstore, pbytes, pmark, psrc, pkey, pnile, pcap, pgrow, List.set, Value.cells, ↓popG_eq, ↓pop.eq_1, ↓List.getElem?_map, ↓List.getElem?_cons_zero, ↓List.getElem?_cons_succ, Value.oneCell', Nat.reduceAdd, Nat.reduceMul, Nat.reduceSub, Nat.reduceLeDiff, Nat.reduceEqDiff, ↓reduceIte, ne_eq, reduceCtorEq, forall_const, exists_and_left, exists_eq_left', eq_self, Nat.reduceLT, Int.reduceLT, Int.reduceLE, Int.reduceToNat, Int.reduceAdd, Int.reduceSub, Int.reduceNeg, hnm, Try.tf0, Try.tf3, Try.tf7, Try.tf35, Try.tf65, Try.teq79])
  repeat' (first
    | (with_reducible apply W_seq_k; intro nx hnx)
    | (with_reducible first | apply W_block | apply W_scope)
    | (with_reducible refine W_prune 5 ?_; simp only [prb, Nat.reducePow, Nat.reduceDiv, Nat.reduceMod, Nat.reduceBEq]; with_reducible apply W_region_l)
    | ((first | (with_reducible apply WL_op; intro nx hnx) | with_reducible refine Ev_out ?_); try (simp (maxSteps := 2000000) (disch := omega) only [evb, evd, pbuiltin, constPV, pnck, seqK, blockK, scopeK, pbin, pun, ppick, plen, piaddr, pindex, pfield, pslice, pbound, pconv, pelems, pextract, pmm, PV.mem?, PV.one, PV.cells, pageq, peqs, peq1, pmakes, pstore, pbytes, pmark, psrc, pkey, pnile, pcap, pgrow, List.set, Value.cells, ↓popG_eq, ↓pop.eq_1, ↓List.getElem?_map, ↓List.getElem?_cons_zero, ↓List.getElem?_cons_succ, Value.oneCell', Nat.reduceAdd, Nat.reduceMul, Nat.reduceSub, Nat.reduceLeDiff, Nat.reduceEqDiff, ↓reduceIte, ne_eq, reduceCtorEq, forall_const, exists_and_left, exists_eq_left', eq_self, Nat.reduceLT, Int.reduceLT, Int.reduceLE, Int.reduceToNat, Int.reduceAdd, Int.reduceSub, Int.reduceNeg, hnm, Try.tf0, Try.tf3, Try.tf7, Try.tf35, Try.tf65, Try.teq79]); repeat (refine And.intro (by omega) ?_))
    | ((with_reducible first | apply WL_nil | apply W_label | apply W_skip | apply W_exit | apply W_ret); try simp only [seqK, blockK, scopeK, ↓reduceIte, Nat.reduceEqDiff])
    | (with_reducible apply W_cond_k; intro _ _ ea eb; (simp only [condK, cob, opnd, constPV, Nat.reduceEqDiff, Nat.reduceLT, ↓reduceIte, hcb, reduceCtorEq, forall_const, ne_eq]); subst ea eb; first | (refine ⟨fun hc => ?_, fun hc => ?_⟩ <;> first | (exfalso; omega) | (exfalso; exact hc trivial) | skip) | skip)
    | (with_reducible apply hnx; clear hnx nx)
    | (with_reducible refine And.intro (by omega) ?_)
    | (with_reducible refine And.intro ?_ ?_)
    | (clear hnx nx; with_reducible apply hnx; clear hnx nx)
    | (clear hnx nx; clear hnx nx; with_reducible apply hnx; clear hnx nx)
    | (clear hnx nx; clear hnx nx; clear hnx nx; with_reducible apply hnx; clear hnx nx))
  refine hfin _ _ (Fin_ret1 rfl (Sub_nil _) ?_); simp only [List.getD_cons_zero, List.getD_cons_succ, fr_getD_cons, fr_getD_nil, Nat.reduceEqDiff, Nat.reduceLT, ↓reduceIte]
  exact ⟨by trivial, by trivial⟩
section
variable {P : Program} {G : Globs} {σ : PState} {fn : FuncId} {d : Option Tmp} {K : PState → Prop} {q : Bool}
/-- A call that looks at an end alone. -/
theorem pcall_look {n : Int} {o : PObj} {v : Value} (hl : look σ.heap n = some o) (hc : PCalls P G fn [.iptr o.cells 0] [] (fun res H => res = .val v ∧ H = [])) (hk : K (PState.put σ d (.val v))) : @pcallI q P G σ d fn [.ptr n 0] ⟨K⟩ := by
  refine pcall_lend n o hl (R := fun res H => res = .val v ∧ H = []) ?_ ?_
  · simpa [frz1] using hc
  · rintro res H ⟨rfl, rfl⟩
    exact ⟨rfl, .val v, hk⟩
end
end Go.PM

namespace Go.PM
open Go.Proofs
/-- Two ends, what they have sent, and the packets on their way. -/
structure OrdS (i : Nat) (key : UInt64) (Sa Sb : List (List UInt8)) (sa sb : LE) (ps : List (List UInt8)) (to : List Nat) : Prop where
  oa : OrdE i key Sa Sb sb.got sa
  ob : OrdE i key Sb Sa sa.got sb
  plen : ps.length ≤ 16 * i
  tolen : to.length = ps.length
  two : ∀ t ∈ to, t < 2
  pk : ∀ (j : Nat) (x : List UInt8) (t : Nat), ps[j]? = some x → to[j]? = some t → PkO key (if t = 0 then Sb else Sa) (if t = 0 then sb.got else sa.got) x
theorem OrdS.up {i j : Nat} {key : UInt64} {Sa Sb : List (List UInt8)} {sa sb : LE} {ps : List (List UInt8)} {to : List Nat} (h : OrdS i key Sa Sb sa sb ps to) (hij : i ≤ j) : OrdS j key Sa Sb sa sb ps to :=
  ⟨h.oa.up hij, h.ob.up hij, by have := h.plen; omega, h.tolen, h.two, h.pk⟩
@[reducible] def ordL (l : List Int) (a b nT nP nG nQ : Int) (tl ql i : Nat) : List (Nat × PV) :=
  [(11, .row nT 1 tl), (10, .row nP 1 ql), (9, .row nG 1 2), (8, .row nQ 1 2), (12, pn i), (7, .list 1 [.ptr a 0, .ptr b 0]), (2, .list 1 (l.map (pint .i64)))]
@[reducible] def ordO (nT nP nG nQ n0 n1 : Int) (to : List Nat) (ps : List (List UInt8)) (g0 g1 : Nat) (Sa Sb : List (List UInt8)) (H : Heap) : Heap :=
  (nT, ⟨3, true, 1, to.map pn⟩) :: (nP, ⟨33, true, 1, ps.map pl⟩) :: (nG, ⟨3, true, 1, [pn g0, pn g1]⟩) :: (nQ, ⟨28, true, 1, [.row n0 1 Sa.length, .row n1 1 Sb.length]⟩) :: (n0, ⟨33, true, 1, Sa.map pl⟩) :: (n1, ⟨33, true, 1, Sb.map pl⟩) :: H
@[reducible] def ordT (l : List Int) (a b nT nP nG nQ n0 n1 : Int) (to : List Nat) (ps : List (List UInt8)) (g0 g1 : Nat) (Sa Sb : List (List UInt8)) (i : Nat) (H : Heap) : PState :=
  ⟨fr 214 (ordL l a b nT nP nG nQ to.length ps.length i), ordO nT nP nG nQ n0 n1 to ps g0 g1 Sa Sb H⟩
theorem ord_ne {nT nP nG nQ n0 n1 : Int} {to : List Nat} {ps Sa Sb : List (List UInt8)} {g0 g1 : Nat} {H : Heap} (nd : (names (ordO nT nP nG nQ n0 n1 to ps g0 g1 Sa Sb H)).Nodup) : ((nT = nP) = False ∧ (nP = nT) = False ∧ (nT = nG) = False ∧ (nG = nT) = False ∧ (nT = nQ) = False ∧ (nQ = nT) = False ∧ (nT = n0) = False ∧ (n0 = nT) = False ∧ (nT = n1) = False ∧ (n1 = nT) = False ∧ (nP = nG) = False ∧ (nG = nP) = False ∧ (nP = nQ) = False ∧ (nQ = nP) = False ∧ (nP = n0) = False ∧ (n0 = nP) = False ∧ (nP = n1) = False ∧ (n1 = nP) = False ∧ (nG = nQ) = False ∧ (nQ = nG) = False ∧ (nG = n0) = False ∧ (n0 = nG) = False ∧ (nG = n1) = False ∧ (n1 = nG) = False ∧ (nQ = n0) = False ∧ (n0 = nQ) = False ∧ (nQ = n1) = False ∧ (n1 = nQ) = False ∧ (n0 = n1) = False ∧ (n1 = n0) = False) ∧ nT ∉ names H ∧ nP ∉ names H ∧ nG ∉ names H ∧ nQ ∉ names H ∧ n0 ∉ names H ∧ n1 ∉ names H := by
  simp only [ordO, names, List.map_cons, List.nodup_cons, List.mem_cons, not_or] at nd
  obtain ⟨⟨h_nT_nP, h_nT_nG, h_nT_nQ, h_nT_n0, h_nT_n1, k_nT⟩, ⟨h_nP_nG, h_nP_nQ, h_nP_n0, h_nP_n1, k_nP⟩, ⟨h_nG_nQ, h_nG_n0, h_nG_n1, k_nG⟩, ⟨h_nQ_n0, h_nQ_n1, k_nQ⟩, ⟨h_n0_n1, k_n0⟩, k_n1, -⟩ := nd
  exact ⟨⟨eq_false h_nT_nP, eq_false fun e => h_nT_nP e.symm, eq_false h_nT_nG, eq_false fun e => h_nT_nG e.symm, eq_false h_nT_nQ, eq_false fun e => h_nT_nQ e.symm, eq_false h_nT_n0, eq_false fun e => h_nT_n0 e.symm, eq_false h_nT_n1, eq_false fun e => h_nT_n1 e.symm, eq_false h_nP_nG, eq_false fun e => h_nP_nG e.symm, eq_false h_nP_nQ, eq_false fun e => h_nP_nQ e.symm, eq_false h_nP_n0, eq_false fun e => h_nP_n0 e.symm, eq_false h_nP_n1, eq_false fun e => h_nP_n1 e.symm, eq_false h_nG_nQ, eq_false fun e => h_nG_nQ e.symm, eq_false h_nG_n0, eq_false fun e => h_nG_n0 e.symm, eq_false h_nG_n1, eq_false fun e => h_nG_n1 e.symm, eq_false h_nQ_n0, eq_false fun e => h_nQ_n0 e.symm, eq_false h_nQ_n1, eq_false fun e => h_nQ_n1 e.symm, eq_false h_n0_n1, eq_false fun e => h_n0_n1 e.symm⟩, k_nT, k_nP, k_nG, k_nQ, k_n0, k_n1⟩
section
variable {P : Program} {G : Globs} {f : List PV} {x1 x2 x3 x4 x5 x6 : Int × PObj} {A B : Heap} {fn : FuncId} {args : List PV} {R : PV → Heap → Prop} {d : Option Tmp} {K : PState → Prop}
theorem pcall_ob (hc : PCalls P G fn args B R) (hk : ∀ res H, R res H → K (PState.put ⟨f, x1 :: x2 :: x3 :: x4 :: x5 :: x6 :: (H ++ A)⟩ d res)) : @pcallI false P G ⟨f, x1 :: x2 :: x3 :: x4 :: x5 :: x6 :: (B ++ A)⟩ d fn args ⟨K⟩ :=
  pcall_mid [x1, x2, x3, x4, x5, x6] B A rfl hc hk
theorem pcall_oa (hc : PCalls P G fn args A R) (hk : ∀ res H, R res H → K (PState.put ⟨f, x1 :: x2 :: x3 :: x4 :: x5 :: x6 :: (B ++ H)⟩ d res)) : @pcallI false P G ⟨f, x1 :: x2 :: x3 :: x4 :: x5 :: x6 :: (B ++ A)⟩ d fn args ⟨K⟩ :=
  pcall_mid (x1 :: x2 :: x3 :: x4 :: x5 :: x6 :: B) A [] (by simp) hc (fun res H h => by simpa using hk res H h)
end
attribute [local irreducible] W PCalls pcall pcallI WL
set_option maxRecDepth 100000 in
set_option maxHeartbeats 8000000 in
theorem ord_send (G : Globs) (key : UInt64) (l : List Int) (a b nT nP nG nQ n0 n1 : Int) (to : List Nat) (ps Sa Sb : List (List UInt8)) (sa sb : LE) (i : Nat) (hi : i < 80) (k : Nat) (hk : k < 2) (hI : OrdS i key Sa Sb sa sb ps to) (Ha Hb : Heap) (hA : IsEnd a sa Ha) (hB : IsEnd b sb Hb)
    (K : Exit → PState → Prop) (hK : ∀ σ' n0 n1 Sa Sb sa sb Ha Hb, OrdS (i + 1) key Sa Sb sa sb ps to → IsEnd a sa Ha → IsEnd b sb Hb → At σ' (ordT l a b nT nP nG nQ n0 n1 to ps sa.got sb.got Sa Sb i (Hb ++ Ha)) → K .normal σ') :
    W Try.prog G [] (nav (Try.f5.body.getD .skip) [1, 1, 1, 1, 1, 1, 1, 0, 1, 0, 0, 1, 0, 0, 1, 1, 0, 1, 0, 1, 0]) ⟨fr 214 ((14, pn k) :: ordL l a b nT nP nG nQ to.length ps.length i), ordO nT nP nG nQ n0 n1 to ps sa.got sb.got Sa Sb (Hb ++ Ha)⟩ K := by
  have hnm : True := trivial
  refine W_nd fun nd => ?_
  obtain ⟨hne, -⟩ := ord_ne nd
  clear nd
  obtain ⟨u, hu⟩ := byte_u8 (i : Int)
  have h3 : (([3] : List UInt8).map fun x => (x.toNat : Int)) = [3] := rfl
  have hk2 : k = 0 ∨ k = 1 := by omega
  have ha1 := hI.oa.len
  have hb1 := hI.ob.len
  simp only [Try.f5, nav, Option.getD_some]
  rcases hk2 with rfl | rfl
  · obtain ⟨s', e1, e2, e3⟩ := hI.oa.send (by omega) [u, 3] (by simp)
    have c1 := send_k G e1 hA (by simp) (by have := (hI.oa.okE (by omega)).1; omega)
    have c1 : PCalls Try.prog G 11 [.ptr a 0, .list 1 [.val (.int .u8 u.toNat), .val (.int .u8 3)]] Ha _ := c1
    repeat' (first
    | (with_reducible apply W_seq_k; intro nx hnx)
    | (with_reducible first | apply W_block | apply W_scope)
    | (with_reducible refine W_prune 44601495713973229422734928169532163404857287 ?_; simp only [prb, Nat.reducePow, Nat.reduceDiv, Nat.reduceMod, Nat.reduceBEq]; first | (with_reducible apply W_region_l) | with_reducible refine W_region_draw (id := 17) 2 (.op 0 true (.op 1 true (.op 2 true (.op 3 true (.op 4 true (.op 5 true (.op 6 true (.op 7 true (.op 8 false (.op 9 true (.op 10 true (.op 11 true (.op 12 true (.op 13 true (.done))))))))))))))) (by kernel_rfl) ?_ | with_reducible refine W_region_draw (id := 23) 6 (.op 0 true (.op 1 true (.op 2 true (.op 3 true (.op 4 true (.op 5 true (.op 6 true (.op 7 true (.op 8 true (.op 9 true (.op 10 true (.op 11 true (.op 12 true (.op 13 true (.op 14 true (.op 15 true (.op 16 true (.op 17 true (.op 18 true (.op 19 true (.op 20 true (.op 21 true (.op 22 true (.op 23 true (.op 24 true (.op 25 true (.op 26 true (.op 27 false (.op 28 true (.op 29 true (.done))))))))))))))))))))))))))))))) (by kernel_rfl) ?_ | with_reducible refine W_region_draw (id := 43) 7 (.op 0 true (.op 1 true (.op 2 true (.op 3 true (.op 5 true (.op 6 true (.op 7 true (.op 8 true (.op 9 true (.op 4 true (.op 10 true (.op 11 true (.op 12 true (.op 13 true (.op 14 true (.op 15 true (.op 17 true (.op 18 true (.op 19 true (.op 20 true (.op 21 true (.op 22 true (.op 23 true (.op 24 true (.op 25 true (.op 26 true (.op 27 true (.op 16 true (.op 28 true (.op 29 true (.op 30 true (.op 31 true (.op 32 true (.op 33 true (.op 34 true (.op 35 false (.op 36 true (.op 37 true (.done))))))))))))))))))))))))))))))))))))))) (by kernel_rfl) ?_)
    | (with_reducible refine WL_born (by simp) rfl (by simp) ?_; simp only [elemsOf, nl, List.map_cons, List.map_nil, Nat.reduceEqDiff, ↓reduceIte, List.take_succ_cons, List.take_zero, List.range_succ, List.range_zero, List.nil_append, List.cons_append, List.map_append, List.drop_succ_cons, List.drop_zero, Nat.reduceMul, Nat.zero_mul, Nat.one_mul, Nat.reduceAdd])
    | ((first | (with_reducible apply WL_op; intro nx hnx) | with_reducible refine Ev_out ?_ | (with_reducible apply popsD_op; intro nx hnx) | (with_reducible refine popsD_alt ?_ ?_; intro nx hnx) | (with_reducible refine pfresh_k hnm fun nm hnm => ?_; (try simp only [fmb] at hnm)) | (with_reducible refine pborn_im ?_; simp only [elemsOf, nl, List.map_cons, List.map_nil, Nat.reduceEqDiff, ↓reduceIte, List.take_succ_cons, List.take_zero, List.range_succ, List.range_zero, List.nil_append, List.cons_append, List.map_append, List.drop_succ_cons, List.drop_zero, Nat.reduceMul, Nat.zero_mul, Nat.one_mul, Nat.reduceAdd]) | (with_reducible refine pmaybe_k ?_; intro bn hbn)); try (simp (maxSteps := 2000000) (disch := omega) only [evb, evd, pbuiltin, constPV, pnck, seqK, blockK, scopeK, pbin, pun, ppick, plen, piaddr, pindex, pfield, pslice, pbound, pconv, pelems, pextract, pmm, PV.mem?, PV.one, PV.cells, pageq, peqs, peq1, pmakes, pstore, pbytes, pmark, psrc, pkey, pnile, pcap, pgrow, List.set, Value.cells, ↓popG_eq, ↓pop.eq_1, ↓List.getElem?_map, ↓List.getElem?_cons_zero, ↓List.getElem?_cons_succ, Value.oneCell', Nat.reduceAdd, Nat.reduceMul, Nat.reduceSub, Nat.reduceLeDiff, Nat.reduceEqDiff, ↓reduceIte, ne_eq, reduceCtorEq, forall_const, exists_and_left, exists_eq_left', eq_self, Nat.reduceLT, Int.reduceLT, Int.reduceLE, Int.reduceToNat, Int.reduceAdd, Int.reduceSub, Int.reduceNeg, hnm, Try.tf0, Try.tf1, Try.tf2, Try.tf3, Try.tf4, Try.tf5, Try.tf22, Try.tf23, Try.tf24, Try.tf28, Try.tf33, Try.tf34, Try.tf35, Try.tf44, Try.tf58, Try.tf65, Try.teq79, Try.call9, Try.call10, Try.call11, Try.call13, Try.call19, Try.call21, Try.call22, Try.call23, hne, hu]); repeat (refine And.intro (by omega) ?_))
    | ((with_reducible first | apply WL_nil | apply W_label | apply W_skip | apply W_exit | apply W_ret | apply popsD_done); try simp only [seqK, blockK, scopeK, ↓reduceIte, Nat.reduceEqDiff])
    | with_reducible exact popsD_stop
    | (with_reducible apply pguard_intro <;> (intro hc; (try simp only [hcb, reduceCtorEq, forall_const, ne_eq] at hc); first | (exfalso; omega) | (exfalso; exact hc trivial) | refine Ev_in ?_))
    | (with_reducible apply W_cond_k; intro _ _ ea eb; (simp only [condK, cob, opnd, constPV, Nat.reduceEqDiff, Nat.reduceLT, ↓reduceIte, hcb, reduceCtorEq, forall_const, ne_eq]); subst ea eb; first | (refine ⟨fun hc => ?_, fun hc => ?_⟩ <;> first | (exfalso; omega) | (exfalso; exact hc trivial) | skip) | skip)
    | (with_reducible apply hnx; clear hnx nx)
    | (with_reducible refine And.intro (by omega) ?_)
    | (with_reducible refine And.intro ?_ ?_)
    | (((with_reducible refine pcall_oa c1 ?_); rintro _ Ha' ⟨rfl, hA'⟩; refine Ev_in ?_))
    | (clear hnx nx; with_reducible apply hnx; clear hnx nx)
    | (clear hnx nx; clear hnx nx; with_reducible apply hnx; clear hnx nx)
    | (clear hnx nx; clear hnx nx; clear hnx nx; with_reducible apply hnx; clear hnx nx))
    all_goals first
      | exact absurd trivial hc
      | (exfalso
         omega)
      | skip
    refine hK _ nm n1 (Sa ++ [[u, 3]]) Sb s' sb Ha' Hb ⟨e3, ?_, by have := hI.plen; omega, hI.tolen, hI.two, fun j x t hx ht => ?_⟩ hA' hB ?_
    · rw [e2]
      exact hI.ob.ext _ (by omega) (Nat.le_succ i)
    · have := hI.pk j x t hx ht
      rw [e2]
      split
      · rename_i h0
        simpa only [h0, if_true] using this
      · rename_i h0
        simp only [h0, if_false] at this
        exact this.mono (Nat.le_refl _) ⟨_, rfl⟩
    · rw [e2]
      refine At_fr (by simp only [wkb, Nat.reduceEqDiff, Nat.reduceLT, ↓reduceIte]) ?_
      refine Hs.perm ?_
      simp only [ordO, List.map_append, List.map_cons, List.map_nil, List.length_append, List.length_cons, List.length_nil, Nat.zero_add, flat, List.flatMap_cons, List.flatMap_nil, PV.cells, List.append_nil]
      exact (List.perm_middle (l₁ := [_, _, _, _])).symm
  · obtain ⟨s', e1, e2, e3⟩ := hI.ob.send (by omega) [u, 3] (by simp)
    have c1 := send_k G e1 hB (by simp) (by have := (hI.ob.okE (by omega)).1; omega)
    have c1 : PCalls Try.prog G 11 [.ptr b 0, .list 1 [.val (.int .u8 u.toNat), .val (.int .u8 3)]] Hb _ := c1
    repeat' (first
    | (with_reducible apply W_seq_k; intro nx hnx)
    | (with_reducible first | apply W_block | apply W_scope)
    | (with_reducible refine W_prune 44601495713973229422734928169532163404857287 ?_; simp only [prb, Nat.reducePow, Nat.reduceDiv, Nat.reduceMod, Nat.reduceBEq]; first | (with_reducible apply W_region_l) | with_reducible refine W_region_draw (id := 17) 2 (.op 0 true (.op 1 true (.op 2 true (.op 3 true (.op 4 true (.op 5 true (.op 6 true (.op 7 true (.op 8 false (.op 9 true (.op 10 true (.op 11 true (.op 12 true (.op 13 true (.done))))))))))))))) (by kernel_rfl) ?_ | with_reducible refine W_region_draw (id := 23) 6 (.op 0 true (.op 1 true (.op 2 true (.op 3 true (.op 4 true (.op 5 true (.op 6 true (.op 7 true (.op 8 true (.op 9 true (.op 10 true (.op 11 true (.op 12 true (.op 13 true (.op 14 true (.op 15 true (.op 16 true (.op 17 true (.op 18 true (.op 19 true (.op 20 true (.op 21 true (.op 22 true (.op 23 true (.op 24 true (.op 25 true (.op 26 true (.op 27 false (.op 28 true (.op 29 true (.done))))))))))))))))))))))))))))))) (by kernel_rfl) ?_ | with_reducible refine W_region_draw (id := 43) 7 (.op 0 true (.op 1 true (.op 2 true (.op 3 true (.op 5 true (.op 6 true (.op 7 true (.op 8 true (.op 9 true (.op 4 true (.op 10 true (.op 11 true (.op 12 true (.op 13 true (.op 14 true (.op 15 true (.op 17 true (.op 18 true (.op 19 true (.op 20 true (.op 21 true (.op 22 true (.op 23 true (.op 24 true (.op 25 true (.op 26 true (.op 27 true (.op 16 true (.op 28 true (.op 29 true (.op 30 true (.op 31 true (.op 32 true (.op 33 true (.op 34 true (.op 35 false (.op 36 true (.op 37 true (.done))))))))))))))))))))))))))))))))))))))) (by kernel_rfl) ?_)
    | (with_reducible refine WL_born (by simp) rfl (by simp) ?_; simp only [elemsOf, nl, List.map_cons, List.map_nil, Nat.reduceEqDiff, ↓reduceIte, List.take_succ_cons, List.take_zero, List.range_succ, List.range_zero, List.nil_append, List.cons_append, List.map_append, List.drop_succ_cons, List.drop_zero, Nat.reduceMul, Nat.zero_mul, Nat.one_mul, Nat.reduceAdd])
    | ((first | (with_reducible apply WL_op; intro nx hnx) | with_reducible refine Ev_out ?_ | (with_reducible apply popsD_op; intro nx hnx) | (with_reducible refine popsD_alt ?_ ?_; intro nx hnx) | (with_reducible refine pfresh_k hnm fun nm hnm => ?_; (try simp only [fmb] at hnm)) | (with_reducible refine pborn_im ?_; simp only [elemsOf, nl, List.map_cons, List.map_nil, Nat.reduceEqDiff, ↓reduceIte, List.take_succ_cons, List.take_zero, List.range_succ, List.range_zero, List.nil_append, List.cons_append, List.map_append, List.drop_succ_cons, List.drop_zero, Nat.reduceMul, Nat.zero_mul, Nat.one_mul, Nat.reduceAdd]) | (with_reducible refine pmaybe_k ?_; intro bn hbn)); try (simp (maxSteps := 2000000) (disch := omega) only [evb, evd, pbuiltin, constPV, pnck, seqK, blockK, scopeK, pbin, pun, ppick, plen, piaddr, pindex, pfield, pslice, pbound, pconv, pelems, pextract, pmm, PV.mem?, PV.one, PV.cells, pageq, peqs, peq1, pmakes, pstore, pbytes, pmark, psrc, pkey, pnile, pcap, pgrow, List.set, Value.cells, ↓popG_eq, ↓pop.eq_1, ↓List.getElem?_map, ↓List.getElem?_cons_zero, ↓List.getElem?_cons_succ, Value.oneCell', Nat.reduceAdd, Nat.reduceMul, Nat.reduceSub, Nat.reduceLeDiff, Nat.reduceEqDiff, ↓reduceIte, ne_eq, reduceCtorEq, forall_const, exists_and_left, exists_eq_left', eq_self, Nat.reduceLT, Int.reduceLT, Int.reduceLE, Int.reduceToNat, Int.reduceAdd, Int.reduceSub, Int.reduceNeg, hnm, Try.tf0, Try.tf1, Try.tf2, Try.tf3, Try.tf4, Try.tf5, Try.tf22, Try.tf23, Try.tf24, Try.tf28, Try.tf33, Try.tf34, Try.tf35, Try.tf44, Try.tf58, Try.tf65, Try.teq79, Try.call9, Try.call10, Try.call11, Try.call13, Try.call19, Try.call21, Try.call22, Try.call23, hne, hu]); repeat (refine And.intro (by omega) ?_))
    | ((with_reducible first | apply WL_nil | apply W_label | apply W_skip | apply W_exit | apply W_ret | apply popsD_done); try simp only [seqK, blockK, scopeK, ↓reduceIte, Nat.reduceEqDiff])
    | with_reducible exact popsD_stop
    | (with_reducible apply pguard_intro <;> (intro hc; (try simp only [hcb, reduceCtorEq, forall_const, ne_eq] at hc); first | (exfalso; omega) | (exfalso; exact hc trivial) | refine Ev_in ?_))
    | (with_reducible apply W_cond_k; intro _ _ ea eb; (simp only [condK, cob, opnd, constPV, Nat.reduceEqDiff, Nat.reduceLT, ↓reduceIte, hcb, reduceCtorEq, forall_const, ne_eq]); subst ea eb; first | (refine ⟨fun hc => ?_, fun hc => ?_⟩ <;> first | (exfalso; omega) | (exfalso; exact hc trivial) | skip) | skip)
    | (with_reducible apply hnx; clear hnx nx)
    | (with_reducible refine And.intro (by omega) ?_)
    | (with_reducible refine And.intro ?_ ?_)
    | (((with_reducible refine pcall_ob c1 ?_); rintro _ Hb' ⟨rfl, hB'⟩; refine Ev_in ?_))
    | (clear hnx nx; with_reducible apply hnx; clear hnx nx)
    | (clear hnx nx; clear hnx nx; with_reducible apply hnx; clear hnx nx)
    | (clear hnx nx; clear hnx nx; clear hnx nx; with_reducible apply hnx; clear hnx nx))
    all_goals first
      | exact absurd trivial hc
      | (exfalso
         omega)
      | skip
    refine hK _ n0 nm Sa (Sb ++ [[u, 3]]) sa s' Ha Hb' ⟨?_, e3, by have := hI.plen; omega, hI.tolen, hI.two, fun j x t hx ht => ?_⟩ hA hB' ?_
    · rw [e2]
      exact hI.oa.ext _ (by omega) (Nat.le_succ i)
    · have := hI.pk j x t hx ht
      rw [e2]
      split
      · rename_i h0
        simp only [h0, if_true] at this
        exact this.mono (Nat.le_refl _) ⟨_, rfl⟩
      · rename_i h0
        simpa only [h0, if_false] using this
    · rw [e2]
      refine At_fr (by simp only [wkb, Nat.reduceEqDiff, Nat.reduceLT, ↓reduceIte]) ?_
      refine Hs.perm ?_
      simp only [ordO, List.map_append, List.map_cons, List.map_nil, List.length_append, List.length_cons, List.length_nil, Nat.zero_add, flat, List.flatMap_cons, List.flatMap_nil, PV.cells, List.append_nil]
      exact (List.perm_middle (l₁ := [_, _, _, _, _])).symm
set_option maxRecDepth 100000 in
set_option maxHeartbeats 8000000 in
theorem ord_sent (G : Globs) (l : List Int) (a b nT nP nG nQ n0 n1 : Int) (to : List Nat) (ps q Sa Sb : List (List UInt8)) (g0 g1 i k : Nat) (hk : k < 2) (H : Heap) (hql : q.length ≤ 16) (hsl : ps.length ≤ 2000) (htl : to.length ≤ 2000)
    (K : Exit → PState → Prop) (hK : ∀ σ' nT nP, At σ' (ordT l a b nT nP nG nQ n0 n1 (to ++ List.replicate q.length (1 - k)) (ps ++ q) g0 g1 Sa Sb i H) → K .normal σ') :
    W Try.prog G [] (nav (Try.f5.body.getD .skip) [1, 1, 1, 1, 1, 1, 1, 0, 1, 0, 0, 1, 0, 0, 1, 1, 0, 1, 0, 1, 1, 1, 0, 1]) ⟨fr 214 ((16, .list 1 (q.map pl)) :: (14, pn k) :: ordL l a b nT nP nG nQ to.length ps.length i), ordO nT nP nG nQ n0 n1 to ps g0 g1 Sa Sb H⟩ K := by
  have hnm : True := trivial
  simp only [Try.f5, nav, Option.getD_some]
  repeat' (first
    | (with_reducible apply W_seq_k; intro nx hnx)
    | (with_reducible first | apply W_block | apply W_scope)
    | (with_reducible refine W_prune 44601495713973229422734928169532163404857287 ?_; simp only [prb, Nat.reducePow, Nat.reduceDiv, Nat.reduceMod, Nat.reduceBEq]; first | (with_reducible apply W_region_l) | with_reducible refine W_region_draw (id := 17) 2 (.op 0 true (.op 1 true (.op 2 true (.op 3 true (.op 4 true (.op 5 true (.op 6 true (.op 7 true (.op 8 false (.op 9 true (.op 10 true (.op 11 true (.op 12 true (.op 13 true (.done))))))))))))))) (by kernel_rfl) ?_ | with_reducible refine W_region_draw (id := 23) 6 (.op 0 true (.op 1 true (.op 2 true (.op 3 true (.op 4 true (.op 5 true (.op 6 true (.op 7 true (.op 8 true (.op 9 true (.op 10 true (.op 11 true (.op 12 true (.op 13 true (.op 14 true (.op 15 true (.op 16 true (.op 17 true (.op 18 true (.op 19 true (.op 20 true (.op 21 true (.op 22 true (.op 23 true (.op 24 true (.op 25 true (.op 26 true (.op 27 false (.op 28 true (.op 29 true (.done))))))))))))))))))))))))))))))) (by kernel_rfl) ?_ | with_reducible refine W_region_draw (id := 43) 7 (.op 0 true (.op 1 true (.op 2 true (.op 3 true (.op 5 true (.op 6 true (.op 7 true (.op 8 true (.op 9 true (.op 4 true (.op 10 true (.op 11 true (.op 12 true (.op 13 true (.op 14 true (.op 15 true (.op 17 true (.op 18 true (.op 19 true (.op 20 true (.op 21 true (.op 22 true (.op 23 true (.op 24 true (.op 25 true (.op 26 true (.op 27 true (.op 16 true (.op 28 true (.op 29 true (.op 30 true (.op 31 true (.op 32 true (.op 33 true (.op 34 true (.op 35 false (.op 36 true (.op 37 true (.done))))))))))))))))))))))))))))))))))))))) (by kernel_rfl) ?_)
    | (with_reducible refine WL_born (by simp) rfl (by simp) ?_; simp only [elemsOf, nl, List.map_cons, List.map_nil, Nat.reduceEqDiff, ↓reduceIte, List.take_succ_cons, List.take_zero, List.range_succ, List.range_zero, List.nil_append, List.cons_append, List.map_append, List.drop_succ_cons, List.drop_zero, Nat.reduceMul, Nat.zero_mul, Nat.one_mul, Nat.reduceAdd])
    | ((first | (with_reducible apply WL_op; intro nx hnx) | with_reducible refine Ev_out ?_ | (with_reducible apply popsD_op; intro nx hnx) | (with_reducible refine popsD_alt ?_ ?_; intro nx hnx) | (with_reducible refine pfresh_k hnm fun nm hnm => ?_; (try simp only [fmb] at hnm)) | (with_reducible refine pborn_im ?_; simp only [elemsOf, nl, List.map_cons, List.map_nil, Nat.reduceEqDiff, ↓reduceIte, List.take_succ_cons, List.take_zero, List.range_succ, List.range_zero, List.nil_append, List.cons_append, List.map_append, List.drop_succ_cons, List.drop_zero, Nat.reduceMul, Nat.zero_mul, Nat.one_mul, Nat.reduceAdd]) | (with_reducible refine pmaybe_k ?_; intro bn hbn)); try (simp (maxSteps := 2000000) (disch := omega) only [evb, evd, pbuiltin, constPV, pnck, seqK, blockK, scopeK, pbin, pun, ppick, plen, piaddr, pindex, pfield, pslice, pbound, pconv, pelems, pextract, pmm, PV.mem?, PV.one, PV.cells, pageq, peqs, peq1, pmakes, pstore, pbytes, pmark, psrc, pkey, pnile, pcap, pgrow, List.set, Value.cells, ↓popG_eq, ↓pop.eq_1, ↓List.getElem?_map, ↓List.getElem?_cons_zero, ↓List.getElem?_cons_succ, Value.oneCell', Nat.reduceAdd, Nat.reduceMul, Nat.reduceSub, Nat.reduceLeDiff, Nat.reduceEqDiff, ↓reduceIte, ne_eq, reduceCtorEq, forall_const, exists_and_left, exists_eq_left', eq_self, Nat.reduceLT, Int.reduceLT, Int.reduceLE, Int.reduceToNat, Int.reduceAdd, Int.reduceSub, Int.reduceNeg, hnm, Try.tf0, Try.tf1, Try.tf2, Try.tf3, Try.tf4, Try.tf5, Try.tf22, Try.tf23, Try.tf24, Try.tf28, Try.tf33, Try.tf34, Try.tf35, Try.tf44, Try.tf58, Try.tf65, Try.teq79, Try.call9, Try.call10, Try.call11, Try.call13, Try.call19, Try.call21, Try.call22, Try.call23]); repeat (refine And.intro (by omega) ?_))
    | ((with_reducible first | apply WL_nil | apply W_label | apply W_skip | apply W_exit | apply W_ret | apply popsD_done); try simp only [seqK, blockK, scopeK, ↓reduceIte, Nat.reduceEqDiff])
    | with_reducible exact popsD_stop
    | (with_reducible apply pguard_intro <;> (intro hc; (try simp only [hcb, reduceCtorEq, forall_const, ne_eq] at hc); first | (exfalso; omega) | (exfalso; exact hc trivial) | refine Ev_in ?_))
    | (with_reducible apply W_cond_k; intro _ _ ea eb; (simp only [condK, cob, opnd, constPV, Nat.reduceEqDiff, Nat.reduceLT, ↓reduceIte, hcb, reduceCtorEq, forall_const, ne_eq]); subst ea eb; first | (refine ⟨fun hc => ?_, fun hc => ?_⟩ <;> first | (exfalso; omega) | (exfalso; exact hc trivial) | skip) | skip)
    | (with_reducible apply hnx; clear hnx nx)
    | (with_reducible refine And.intro (by omega) ?_)
    | (with_reducible refine And.intro ?_ ?_)
    | (clear hnx nx; with_reducible apply hnx; clear hnx nx)
    | (clear hnx nx; clear hnx nx; with_reducible apply hnx; clear hnx nx)
    | (clear hnx nx; clear hnx nx; clear hnx nx; with_reducible apply hnx; clear hnx nx))
  refine W_loop_at (fun z τ => ∃ (j : Nat) (nT nP : Int) (t' : List Nat) (p' : List (List UInt8)), j ≤ q.length ∧ z = q.length - j ∧ p' = ps ++ q.take j ∧ t' = to ++ List.replicate j (1 - k) ∧
      τ = ⟨fr 214 ((17, pn j) :: (16, .list 1 (q.map pl)) :: (14, pn k) :: ordL l a b nT nP nG nQ t'.length p'.length i), ordO nT nP nG nQ n0 n1 t' p' g0 g1 Sa Sb H⟩) q.length
    ⟨fr 214 ((17, pint .i64 0) :: (16, .list 1 (q.map pl)) :: (14, pn k) :: ordL l a b nT nP nG nQ to.length ps.length i), ordO nT nP nG nQ n0 n1 to ps g0 g1 Sa Sb H⟩ (by
    refine At_fr (by simp only [wkb, Nat.reduceEqDiff, Nat.reduceLT, ↓reduceIte]) ?_
    exact Hs.refl _) ⟨0, nT, nP, to, ps, by omega, by omega, by simp, by simp, rfl⟩ ?_
  rintro z τ ⟨j, nT, nP, t', p', hj, rfl, hs, ht, rfl⟩ lp hlp
  refine W_nd fun nd => ?_
  obtain ⟨hne, -⟩ := ord_ne nd
  clear nd
  have hsl2 : p'.length = ps.length + j := by rw [hs, List.length_append, List.length_take]; omega
  have htl2 : t'.length = to.length + j := by rw [ht, List.length_append, List.length_replicate]
  by_cases hjq : j < q.length
  · have hs2 : p' ++ [q[j]] = ps ++ q.take (j + 1) := by
      rw [hs, List.take_add_one, List.getElem?_eq_getElem hjq]
      simp
    have ht2 : t' ++ [1 - k] = to ++ List.replicate (j + 1) (1 - k) := by
      rw [ht, List.replicate_succ', List.append_assoc]
    have hk1 : (1 : Int) - (k : Int) = ((1 - k : Nat) : Int) := by omega
    clear hs ht
    repeat' (first
    | (with_reducible apply W_seq_k; intro nx hnx)
    | (with_reducible first | apply W_block | apply W_scope)
    | (with_reducible refine W_prune 44601495713973229422734928169532163404857287 ?_; simp only [prb, Nat.reducePow, Nat.reduceDiv, Nat.reduceMod, Nat.reduceBEq]; first | (with_reducible apply W_region_l) | with_reducible refine W_region_draw (id := 17) 2 (.op 0 true (.op 1 true (.op 2 true (.op 3 true (.op 4 true (.op 5 true (.op 6 true (.op 7 true (.op 8 false (.op 9 true (.op 10 true (.op 11 true (.op 12 true (.op 13 true (.done))))))))))))))) (by kernel_rfl) ?_ | with_reducible refine W_region_draw (id := 23) 6 (.op 0 true (.op 1 true (.op 2 true (.op 3 true (.op 4 true (.op 5 true (.op 6 true (.op 7 true (.op 8 true (.op 9 true (.op 10 true (.op 11 true (.op 12 true (.op 13 true (.op 14 true (.op 15 true (.op 16 true (.op 17 true (.op 18 true (.op 19 true (.op 20 true (.op 21 true (.op 22 true (.op 23 true (.op 24 true (.op 25 true (.op 26 true (.op 27 false (.op 28 true (.op 29 true (.done))))))))))))))))))))))))))))))) (by kernel_rfl) ?_ | with_reducible refine W_region_draw (id := 43) 7 (.op 0 true (.op 1 true (.op 2 true (.op 3 true (.op 5 true (.op 6 true (.op 7 true (.op 8 true (.op 9 true (.op 4 true (.op 10 true (.op 11 true (.op 12 true (.op 13 true (.op 14 true (.op 15 true (.op 17 true (.op 18 true (.op 19 true (.op 20 true (.op 21 true (.op 22 true (.op 23 true (.op 24 true (.op 25 true (.op 26 true (.op 27 true (.op 16 true (.op 28 true (.op 29 true (.op 30 true (.op 31 true (.op 32 true (.op 33 true (.op 34 true (.op 35 false (.op 36 true (.op 37 true (.done))))))))))))))))))))))))))))))))))))))) (by kernel_rfl) ?_)
    | (with_reducible refine WL_born (by simp) rfl (by simp) ?_; simp only [elemsOf, nl, List.map_cons, List.map_nil, Nat.reduceEqDiff, ↓reduceIte, List.take_succ_cons, List.take_zero, List.range_succ, List.range_zero, List.nil_append, List.cons_append, List.map_append, List.drop_succ_cons, List.drop_zero, Nat.reduceMul, Nat.zero_mul, Nat.one_mul, Nat.reduceAdd])
    | ((first | (with_reducible apply WL_op; intro nx hnx) | with_reducible refine Ev_out ?_ | (with_reducible apply popsD_op; intro nx hnx) | (with_reducible refine popsD_alt ?_ ?_; intro nx hnx) | (with_reducible refine pfresh_k hnm fun nm hnm => ?_; (try simp only [fmb] at hnm)) | (with_reducible refine pborn_im ?_; simp only [elemsOf, nl, List.map_cons, List.map_nil, Nat.reduceEqDiff, ↓reduceIte, List.take_succ_cons, List.take_zero, List.range_succ, List.range_zero, List.nil_append, List.cons_append, List.map_append, List.drop_succ_cons, List.drop_zero, Nat.reduceMul, Nat.zero_mul, Nat.one_mul, Nat.reduceAdd]) | (with_reducible refine pmaybe_k ?_; intro bn hbn)); try (simp (maxSteps := 2000000) (disch := omega) only [evb, evd, pbuiltin, constPV, pnck, seqK, blockK, scopeK, pbin, pun, ppick, plen, piaddr, pindex, pfield, pslice, pbound, pconv, pelems, pextract, pmm, PV.mem?, PV.one, PV.cells, pageq, peqs, peq1, pmakes, pstore, pbytes, pmark, psrc, pkey, pnile, pcap, pgrow, List.set, Value.cells, ↓popG_eq, ↓pop.eq_1, ↓List.getElem?_map, ↓List.getElem?_cons_zero, ↓List.getElem?_cons_succ, Value.oneCell', Nat.reduceAdd, Nat.reduceMul, Nat.reduceSub, Nat.reduceLeDiff, Nat.reduceEqDiff, ↓reduceIte, ne_eq, reduceCtorEq, forall_const, exists_and_left, exists_eq_left', eq_self, Nat.reduceLT, Int.reduceLT, Int.reduceLE, Int.reduceToNat, Int.reduceAdd, Int.reduceSub, Int.reduceNeg, hnm, Try.tf0, Try.tf1, Try.tf2, Try.tf3, Try.tf4, Try.tf5, Try.tf22, Try.tf23, Try.tf24, Try.tf28, Try.tf33, Try.tf34, Try.tf35, Try.tf44, Try.tf58, Try.tf65, Try.teq79, Try.call9, Try.call10, Try.call11, Try.call13, Try.call19, Try.call21, Try.call22, Try.call23, hne, hk1]); repeat (refine And.intro (by omega) ?_))
    | ((with_reducible first | apply WL_nil | apply W_label | apply W_skip | apply W_exit | apply W_ret | apply popsD_done); try simp only [seqK, blockK, scopeK, ↓reduceIte, Nat.reduceEqDiff])
    | with_reducible exact popsD_stop
    | (with_reducible apply pguard_intro <;> (intro hc; (try simp only [hcb, reduceCtorEq, forall_const, ne_eq] at hc); first | (exfalso; omega) | (exfalso; exact hc trivial) | refine Ev_in ?_))
    | (with_reducible apply W_cond_k; intro _ _ ea eb; (simp only [condK, cob, opnd, constPV, Nat.reduceEqDiff, Nat.reduceLT, ↓reduceIte, hcb, reduceCtorEq, forall_const, ne_eq]); subst ea eb; first | (refine ⟨fun hc => ?_, fun hc => ?_⟩ <;> first | (exfalso; omega) | (exfalso; exact hc trivial) | skip) | skip)
    | (with_reducible apply hnx; clear hnx nx)
    | (with_reducible refine And.intro (by omega) ?_)
    | (with_reducible refine And.intro ?_ ?_)
    | (clear hnx nx; with_reducible apply hnx; clear hnx nx)
    | (clear hnx nx; clear hnx nx; with_reducible apply hnx; clear hnx nx)
    | (clear hnx nx; clear hnx nx; clear hnx nx; with_reducible apply hnx; clear hnx nx))
    all_goals first
      | exact absurd trivial hc
      | (exfalso
         omega)
      | skip
    rename_i nmA hnmA
    refine hlp _ (q.length - (j + 1)) _ (by omega) ?_ ⟨j + 1, nm, nmA, t' ++ [1 - k], p' ++ [q[j]], by omega, rfl, hs2, ht2, rfl⟩
    simp only [List.length_append, List.length_cons, List.length_nil]
    refine At_fr (by simp only [wkb, Nat.reduceEqDiff, Nat.reduceLT, ↓reduceIte, pn]) ?_
    refine Hs.perm ?_
    simp [flat, PV.cells, ordO]
  · have hj2 : j = q.length := by omega
    subst hj2
    repeat' (first
    | (with_reducible apply W_seq_k; intro nx hnx)
    | (with_reducible first | apply W_block | apply W_scope)
    | (with_reducible refine W_prune 44601495713973229422734928169532163404857287 ?_; simp only [prb, Nat.reducePow, Nat.reduceDiv, Nat.reduceMod, Nat.reduceBEq]; first | (with_reducible apply W_region_l) | with_reducible refine W_region_draw (id := 17) 2 (.op 0 true (.op 1 true (.op 2 true (.op 3 true (.op 4 true (.op 5 true (.op 6 true (.op 7 true (.op 8 false (.op 9 true (.op 10 true (.op 11 true (.op 12 true (.op 13 true (.done))))))))))))))) (by kernel_rfl) ?_ | with_reducible refine W_region_draw (id := 23) 6 (.op 0 true (.op 1 true (.op 2 true (.op 3 true (.op 4 true (.op 5 true (.op 6 true (.op 7 true (.op 8 true (.op 9 true (.op 10 true (.op 11 true (.op 12 true (.op 13 true (.op 14 true (.op 15 true (.op 16 true (.op 17 true (.op 18 true (.op 19 true (.op 20 true (.op 21 true (.op 22 true (.op 23 true (.op 24 true (.op 25 true (.op 26 true (.op 27 false (.op 28 true (.op 29 true (.done))))))))))))))))))))))))))))))) (by kernel_rfl) ?_ | with_reducible refine W_region_draw (id := 43) 7 (.op 0 true (.op 1 true (.op 2 true (.op 3 true (.op 5 true (.op 6 true (.op 7 true (.op 8 true (.op 9 true (.op 4 true (.op 10 true (.op 11 true (.op 12 true (.op 13 true (.op 14 true (.op 15 true (.op 17 true (.op 18 true (.op 19 true (.op 20 true (.op 21 true (.op 22 true (.op 23 true (.op 24 true (.op 25 true (.op 26 true (.op 27 true (.op 16 true (.op 28 true (.op 29 true (.op 30 true (.op 31 true (.op 32 true (.op 33 true (.op 34 true (.op 35 false (.op 36 true (.op 37 true (.done))))))))))))))))))))))))))))))))))))))) (by kernel_rfl) ?_)
    | (with_reducible refine WL_born (by simp) rfl (by simp) ?_; simp only [elemsOf, nl, List.map_cons, List.map_nil, Nat.reduceEqDiff, ↓reduceIte, List.take_succ_cons, List.take_zero, List.range_succ, List.range_zero, List.nil_append, List.cons_append, List.map_append, List.drop_succ_cons, List.drop_zero, Nat.reduceMul, Nat.zero_mul, Nat.one_mul, Nat.reduceAdd])
    | ((first | (with_reducible apply WL_op; intro nx hnx) | with_reducible refine Ev_out ?_ | (with_reducible apply popsD_op; intro nx hnx) | (with_reducible refine popsD_alt ?_ ?_; intro nx hnx) | (with_reducible refine pfresh_k hnm fun nm hnm => ?_; (try simp only [fmb] at hnm)) | (with_reducible refine pborn_im ?_; simp only [elemsOf, nl, List.map_cons, List.map_nil, Nat.reduceEqDiff, ↓reduceIte, List.take_succ_cons, List.take_zero, List.range_succ, List.range_zero, List.nil_append, List.cons_append, List.map_append, List.drop_succ_cons, List.drop_zero, Nat.reduceMul, Nat.zero_mul, Nat.one_mul, Nat.reduceAdd]) | (with_reducible refine pmaybe_k ?_; intro bn hbn)); try (simp (maxSteps := 2000000) (disch := omega) only [evb, evd, pbuiltin, constPV, pnck, seqK, blockK, scopeK, pbin, pun, ppick, plen, piaddr, pindex, pfield, pslice, pbound, pconv, pelems, pextract, pmm, PV.mem?, PV.one, PV.cells, pageq, peqs, peq1, pmakes, pstore, pbytes, pmark, psrc, pkey, pnile, pcap, pgrow, List.set, Value.cells, ↓popG_eq, ↓pop.eq_1, ↓List.getElem?_map, ↓List.getElem?_cons_zero, ↓List.getElem?_cons_succ, Value.oneCell', Nat.reduceAdd, Nat.reduceMul, Nat.reduceSub, Nat.reduceLeDiff, Nat.reduceEqDiff, ↓reduceIte, ne_eq, reduceCtorEq, forall_const, exists_and_left, exists_eq_left', eq_self, Nat.reduceLT, Int.reduceLT, Int.reduceLE, Int.reduceToNat, Int.reduceAdd, Int.reduceSub, Int.reduceNeg, hnm, Try.tf0, Try.tf1, Try.tf2, Try.tf3, Try.tf4, Try.tf5, Try.tf22, Try.tf23, Try.tf24, Try.tf28, Try.tf33, Try.tf34, Try.tf35, Try.tf44, Try.tf58, Try.tf65, Try.teq79, Try.call9, Try.call10, Try.call11, Try.call13, Try.call19, Try.call21, Try.call22, Try.call23, hne]); repeat (refine And.intro (by omega) ?_))
    | ((with_reducible first | apply WL_nil | apply W_label | apply W_skip | apply W_exit | apply W_ret | apply popsD_done); try simp only [seqK, blockK, scopeK, ↓reduceIte, Nat.reduceEqDiff])
    | with_reducible exact popsD_stop
    | (with_reducible apply pguard_intro <;> (intro hc; (try simp only [hcb, reduceCtorEq, forall_const, ne_eq] at hc); first | (exfalso; omega) | (exfalso; exact hc trivial) | refine Ev_in ?_))
    | (with_reducible apply W_cond_k; intro _ _ ea eb; (simp only [condK, cob, opnd, constPV, Nat.reduceEqDiff, Nat.reduceLT, ↓reduceIte, hcb, reduceCtorEq, forall_const, ne_eq]); subst ea eb; first | (refine ⟨fun hc => ?_, fun hc => ?_⟩ <;> first | (exfalso; omega) | (exfalso; exact hc trivial) | skip) | skip)
    | (with_reducible apply hnx; clear hnx nx)
    | (with_reducible refine And.intro (by omega) ?_)
    | (with_reducible refine And.intro ?_ ?_)
    | (clear hnx nx; with_reducible apply hnx; clear hnx nx)
    | (clear hnx nx; clear hnx nx; with_reducible apply hnx; clear hnx nx)
    | (clear hnx nx; clear hnx nx; clear hnx nx; with_reducible apply hnx; clear hnx nx))
    all_goals first
      | exact absurd trivial hc
      | (exfalso
         omega)
      | skip
    rw [List.take_length] at hs
    subst hs ht
    refine hK _ nT nP ?_
    refine At_fr (by simp only [wkb, Nat.reduceEqDiff, Nat.reduceLT, ↓reduceIte]) ?_
    exact Hs.refl _
set_option maxRecDepth 100000 in
set_option maxHeartbeats 8000000 in
theorem ord_out (G : Globs) (key : UInt64) (l : List Int) (a b nT nP nG nQ n0 n1 : Int) (to : List Nat) (ps Sa Sb : List (List UInt8)) (sa sb : LE) (i : Nat) (hi : i < 80) (k : Nat) (hk : k < 2) (hI : OrdS i key Sa Sb sa sb ps to) (Ha Hb : Heap) (hA : IsEnd a sa Ha) (hB : IsEnd b sb Hb)
    (K : Exit → PState → Prop) (hK : ∀ σ' nT nP to ps sa sb Ha Hb, OrdS (i + 1) key Sa Sb sa sb ps to → IsEnd a sa Ha → IsEnd b sb Hb → At σ' (ordT l a b nT nP nG nQ n0 n1 to ps sa.got sb.got Sa Sb i (Hb ++ Ha)) → K .normal σ') :
    W Try.prog G [] (nav (Try.f5.body.getD .skip) [1, 1, 1, 1, 1, 1, 1, 0, 1, 0, 0, 1, 0, 0, 1, 1, 0, 1, 0, 1, 1, 1, 0]) ⟨fr 214 ((14, pn k) :: ordL l a b nT nP nG nQ to.length ps.length i), ordO nT nP nG nQ n0 n1 to ps sa.got sb.got Sa Sb (Hb ++ Ha)⟩ K := by
  have hnm : True := trivial
  have hk2 : k = 0 ∨ k = 1 := by omega
  have hpl := hI.plen
  have htl := hI.tolen
  have loop := fun (q : List (List UInt8)) (H : Heap) (hql : q.length ≤ 16) (K : Exit → PState → Prop) (hK : _) => ord_sent G l a b nT nP nG nQ n0 n1 to ps q Sa Sb sa.got sb.got i k hk H hql (by omega) (by omega) K hK
  have hpk : ∀ (q : List (List UInt8)) (t0 : Nat), (∀ x ∈ q, PkO key (if t0 = 0 then Sb else Sa) (if t0 = 0 then sb.got else sa.got) x) → ∀ (j : Nat) (x : List UInt8) (t : Nat), (ps ++ q)[j]? = some x → (to ++ List.replicate q.length t0)[j]? = some t → PkO key (if t = 0 then Sb else Sa) (if t = 0 then sb.got else sa.got) x := by
    intro q t0 hq j x t hx ht
    rcases Nat.lt_or_ge j ps.length with h | h
    · rw [List.getElem?_append_left h] at hx
      rw [List.getElem?_append_left (by omega)] at ht
      exact hI.pk j x t hx ht
    · rw [List.getElem?_append_right h] at hx
      rw [List.getElem?_append_right (by omega)] at ht
      have := (List.mem_replicate.1 (List.mem_of_getElem? ht)).2
      subst this
      exact hq x (List.mem_of_getElem? hx)
  rcases hk2 with rfl | rfl
  · obtain ⟨p1, p2, p3, p4⟩ := hI.oa.out
    have c1 := out_c G a sa (hI.oa.okE (by omega)) (by have := hI.oa.win; omega) hI.oa.wmsgs Ha hA
    have lp := fun (H : Heap) => loop (outL sa).1 H p2
    clear loop
    simp only [Try.f5, nav, Option.getD_some] at lp ⊢
    repeat' (first
    | (with_reducible first | apply W_block | apply W_scope)
    | (with_reducible refine W_prune 44601495713973229422734928169532163404857287 ?_; simp only [prb, Nat.reducePow, Nat.reduceDiv, Nat.reduceMod, Nat.reduceBEq]; first | (with_reducible apply W_region_l) | with_reducible refine W_region_draw (id := 17) 2 (.op 0 true (.op 1 true (.op 2 true (.op 3 true (.op 4 true (.op 5 true (.op 6 true (.op 7 true (.op 8 false (.op 9 true (.op 10 true (.op 11 true (.op 12 true (.op 13 true (.done))))))))))))))) (by kernel_rfl) ?_ | with_reducible refine W_region_draw (id := 23) 6 (.op 0 true (.op 1 true (.op 2 true (.op 3 true (.op 4 true (.op 5 true (.op 6 true (.op 7 true (.op 8 true (.op 9 true (.op 10 true (.op 11 true (.op 12 true (.op 13 true (.op 14 true (.op 15 true (.op 16 true (.op 17 true (.op 18 true (.op 19 true (.op 20 true (.op 21 true (.op 22 true (.op 23 true (.op 24 true (.op 25 true (.op 26 true (.op 27 false (.op 28 true (.op 29 true (.done))))))))))))))))))))))))))))))) (by kernel_rfl) ?_ | with_reducible refine W_region_draw (id := 43) 7 (.op 0 true (.op 1 true (.op 2 true (.op 3 true (.op 5 true (.op 6 true (.op 7 true (.op 8 true (.op 9 true (.op 4 true (.op 10 true (.op 11 true (.op 12 true (.op 13 true (.op 14 true (.op 15 true (.op 17 true (.op 18 true (.op 19 true (.op 20 true (.op 21 true (.op 22 true (.op 23 true (.op 24 true (.op 25 true (.op 26 true (.op 27 true (.op 16 true (.op 28 true (.op 29 true (.op 30 true (.op 31 true (.op 32 true (.op 33 true (.op 34 true (.op 35 false (.op 36 true (.op 37 true (.done))))))))))))))))))))))))))))))))))))))) (by kernel_rfl) ?_)
    | ((first | (with_reducible apply WL_op; intro nx hnx) | with_reducible refine Ev_out ?_ | (with_reducible apply popsD_op; intro nx hnx) | (with_reducible refine popsD_alt ?_ ?_; intro nx hnx) | (with_reducible refine pfresh_k hnm fun nm hnm => ?_; (try simp only [fmb] at hnm)) | (with_reducible refine pborn_mu hnm fun nm hnm => ?_; (try simp only [fmb] at hnm)) | (with_reducible refine pmaybe_k ?_; intro bn hbn)); try (simp (maxSteps := 2000000) (disch := omega) only [evb, evd, pbuiltin, constPV, pnck, seqK, blockK, scopeK, pbin, pun, ppick, plen, piaddr, pindex, pfield, pslice, pbound, pconv, pelems, pextract, pmm, PV.mem?, PV.one, PV.cells, pageq, peqs, peq1, pmakes, pstore, pbytes, pmark, psrc, pkey, pnile, pcap, pgrow, List.set, Value.cells, ↓popG_eq, ↓pop.eq_1, ↓List.getElem?_map, ↓List.getElem?_cons_zero, ↓List.getElem?_cons_succ, Value.oneCell', Nat.reduceAdd, Nat.reduceMul, Nat.reduceSub, Nat.reduceLeDiff, Nat.reduceEqDiff, ↓reduceIte, ne_eq, reduceCtorEq, forall_const, exists_and_left, exists_eq_left', eq_self, Nat.reduceLT, Int.reduceLT, Int.reduceLE, Int.reduceToNat, Int.reduceAdd, Int.reduceSub, Int.reduceNeg, hnm, Try.tf0, Try.tf1, Try.tf2, Try.tf3, Try.tf4, Try.tf5, Try.tf22, Try.tf23, Try.tf24, Try.tf28, Try.tf33, Try.tf34, Try.tf35, Try.tf44, Try.tf58, Try.tf65, Try.teq79, Try.call9, Try.call10, Try.call11, Try.call13, Try.call19, Try.call21, Try.call22, Try.call23, List.length_map]); repeat (refine And.intro (by omega) ?_))
    | ((with_reducible first | apply WL_nil | apply W_label | apply W_skip | apply W_exit | apply W_ret | apply popsD_done); try simp only [seqK, blockK, scopeK, ↓reduceIte, Nat.reduceEqDiff])
    | with_reducible exact popsD_stop
    | (with_reducible apply pguard_intro <;> (intro hc; (try simp only [hcb, reduceCtorEq, forall_const, ne_eq] at hc); first | (exfalso; omega) | (exfalso; exact hc trivial) | refine Ev_in ?_))
    | (with_reducible apply W_cond_k; intro _ _ ea eb; (simp only [condK, cob, opnd, constPV, Nat.reduceEqDiff, Nat.reduceLT, ↓reduceIte, hcb, reduceCtorEq, forall_const, ne_eq]); subst ea eb; first | (refine ⟨fun hc => ?_, fun hc => ?_⟩ <;> first | (exfalso; omega) | (exfalso; exact hc trivial) | skip) | skip)
    | (with_reducible apply hnx; clear hnx nx)
    | (with_reducible refine And.intro (by omega) ?_)
    | (with_reducible refine And.intro ?_ ?_)
    | (clear hnx nx; with_reducible apply hnx; clear hnx nx)
    | (clear hnx nx; clear hnx nx; with_reducible apply hnx; clear hnx nx)
    | (clear hnx nx; clear hnx nx; clear hnx nx; with_reducible apply hnx; clear hnx nx))
    with_reducible apply W_seq_k
    intro nx hnx
    repeat' (first
    | (with_reducible first | apply W_block | apply W_scope)
    | (with_reducible refine W_prune 44601495713973229422734928169532163404857287 ?_; simp only [prb, Nat.reducePow, Nat.reduceDiv, Nat.reduceMod, Nat.reduceBEq]; first | (with_reducible apply W_region_l) | with_reducible refine W_region_draw (id := 17) 2 (.op 0 true (.op 1 true (.op 2 true (.op 3 true (.op 4 true (.op 5 true (.op 6 true (.op 7 true (.op 8 false (.op 9 true (.op 10 true (.op 11 true (.op 12 true (.op 13 true (.done))))))))))))))) (by kernel_rfl) ?_ | with_reducible refine W_region_draw (id := 23) 6 (.op 0 true (.op 1 true (.op 2 true (.op 3 true (.op 4 true (.op 5 true (.op 6 true (.op 7 true (.op 8 true (.op 9 true (.op 10 true (.op 11 true (.op 12 true (.op 13 true (.op 14 true (.op 15 true (.op 16 true (.op 17 true (.op 18 true (.op 19 true (.op 20 true (.op 21 true (.op 22 true (.op 23 true (.op 24 true (.op 25 true (.op 26 true (.op 27 false (.op 28 true (.op 29 true (.done))))))))))))))))))))))))))))))) (by kernel_rfl) ?_ | with_reducible refine W_region_draw (id := 43) 7 (.op 0 true (.op 1 true (.op 2 true (.op 3 true (.op 5 true (.op 6 true (.op 7 true (.op 8 true (.op 9 true (.op 4 true (.op 10 true (.op 11 true (.op 12 true (.op 13 true (.op 14 true (.op 15 true (.op 17 true (.op 18 true (.op 19 true (.op 20 true (.op 21 true (.op 22 true (.op 23 true (.op 24 true (.op 25 true (.op 26 true (.op 27 true (.op 16 true (.op 28 true (.op 29 true (.op 30 true (.op 31 true (.op 32 true (.op 33 true (.op 34 true (.op 35 false (.op 36 true (.op 37 true (.done))))))))))))))))))))))))))))))))))))))) (by kernel_rfl) ?_)
    | ((first | (with_reducible apply WL_op; intro nx hnx) | with_reducible refine Ev_out ?_ | (with_reducible apply popsD_op; intro nx hnx) | (with_reducible refine popsD_alt ?_ ?_; intro nx hnx) | (with_reducible refine pfresh_k hnm fun nm hnm => ?_; (try simp only [fmb] at hnm)) | (with_reducible refine pborn_mu hnm fun nm hnm => ?_; (try simp only [fmb] at hnm)) | (with_reducible refine pmaybe_k ?_; intro bn hbn)); try (simp (maxSteps := 2000000) (disch := omega) only [evb, evd, pbuiltin, constPV, pnck, seqK, blockK, scopeK, pbin, pun, ppick, plen, piaddr, pindex, pfield, pslice, pbound, pconv, pelems, pextract, pmm, PV.mem?, PV.one, PV.cells, pageq, peqs, peq1, pmakes, pstore, pbytes, pmark, psrc, pkey, pnile, pcap, pgrow, List.set, Value.cells, ↓popG_eq, ↓pop.eq_1, ↓List.getElem?_map, ↓List.getElem?_cons_zero, ↓List.getElem?_cons_succ, Value.oneCell', Nat.reduceAdd, Nat.reduceMul, Nat.reduceSub, Nat.reduceLeDiff, Nat.reduceEqDiff, ↓reduceIte, ne_eq, reduceCtorEq, forall_const, exists_and_left, exists_eq_left', eq_self, Nat.reduceLT, Int.reduceLT, Int.reduceLE, Int.reduceToNat, Int.reduceAdd, Int.reduceSub, Int.reduceNeg, hnm, Try.tf0, Try.tf1, Try.tf2, Try.tf3, Try.tf4, Try.tf5, Try.tf22, Try.tf23, Try.tf24, Try.tf28, Try.tf33, Try.tf34, Try.tf35, Try.tf44, Try.tf58, Try.tf65, Try.teq79, Try.call9, Try.call10, Try.call11, Try.call13, Try.call19, Try.call21, Try.call22, Try.call23]); repeat (refine And.intro (by omega) ?_))
    | ((with_reducible first | apply WL_nil | apply W_label | apply W_skip | apply W_exit | apply W_ret | apply popsD_done); try simp only [seqK, blockK, scopeK, ↓reduceIte, Nat.reduceEqDiff])
    | with_reducible exact popsD_stop
    | (with_reducible apply pguard_intro <;> (intro hc; (try simp only [hcb, reduceCtorEq, forall_const, ne_eq] at hc); first | (exfalso; omega) | (exfalso; exact hc trivial) | refine Ev_in ?_))
    | (with_reducible apply W_cond_k; intro _ _ ea eb; (simp only [condK, cob, opnd, constPV, Nat.reduceEqDiff, Nat.reduceLT, ↓reduceIte, hcb, reduceCtorEq, forall_const, ne_eq]); subst ea eb; first | (refine ⟨fun hc => ?_, fun hc => ?_⟩ <;> first | (exfalso; omega) | (exfalso; exact hc trivial) | skip) | skip)
    | (with_reducible apply hnx; clear hnx nx)
    | (with_reducible refine And.intro (by omega) ?_)
    | (with_reducible refine And.intro ?_ ?_)
    | (((with_reducible refine pcall_oa c1 ?_); rintro _ Ha' ⟨rfl, hA'⟩; refine Ev_in ?_))
    | (clear hnx nx; with_reducible apply hnx; clear hnx nx)
    | (clear hnx nx; clear hnx nx; with_reducible apply hnx; clear hnx nx)
    | (clear hnx nx; clear hnx nx; clear hnx nx; with_reducible apply hnx; clear hnx nx))
    refine W_at ?_ (lp (Hb ++ Ha') K fun σ' nT nP hat => hK σ' nT nP _ _ (outL sa).2 sb Ha' Hb ⟨p4.up (Nat.le_succ i), ?_, ?_, ?_, ?_, hpk _ 1 p1⟩ hA' hB ?_)
    · refine At_fr (by simp only [wkb, Nat.reduceEqDiff, Nat.reduceLT, ↓reduceIte]) ?_
      exact Hs.refl _
    · exact hI.ob.up (Nat.le_succ i)
    · rw [List.length_append]
      omega
    · rw [List.length_append, List.length_append, List.length_replicate]
      omega
    · intro t ht
      rcases List.mem_append.1 ht with ht | ht
      · exact hI.two t ht
      · rw [(List.mem_replicate.1 ht).2]
        omega
    · exact hat
  · obtain ⟨p1, p2, p3, p4⟩ := hI.ob.out
    have c1 := out_c G b sb (hI.ob.okE (by omega)) (by have := hI.ob.win; omega) hI.ob.wmsgs Hb hB
    have lp := fun (H : Heap) => loop (outL sb).1 H p2
    clear loop
    simp only [Try.f5, nav, Option.getD_some] at lp ⊢
    repeat' (first
    | (with_reducible first | apply W_block | apply W_scope)
    | (with_reducible refine W_prune 44601495713973229422734928169532163404857287 ?_; simp only [prb, Nat.reducePow, Nat.reduceDiv, Nat.reduceMod, Nat.reduceBEq]; first | (with_reducible apply W_region_l) | with_reducible refine W_region_draw (id := 17) 2 (.op 0 true (.op 1 true (.op 2 true (.op 3 true (.op 4 true (.op 5 true (.op 6 true (.op 7 true (.op 8 false (.op 9 true (.op 10 true (.op 11 true (.op 12 true (.op 13 true (.done))))))))))))))) (by kernel_rfl) ?_ | with_reducible refine W_region_draw (id := 23) 6 (.op 0 true (.op 1 true (.op 2 true (.op 3 true (.op 4 true (.op 5 true (.op 6 true (.op 7 true (.op 8 true (.op 9 true (.op 10 true (.op 11 true (.op 12 true (.op 13 true (.op 14 true (.op 15 true (.op 16 true (.op 17 true (.op 18 true (.op 19 true (.op 20 true (.op 21 true (.op 22 true (.op 23 true (.op 24 true (.op 25 true (.op 26 true (.op 27 false (.op 28 true (.op 29 true (.done))))))))))))))))))))))))))))))) (by kernel_rfl) ?_ | with_reducible refine W_region_draw (id := 43) 7 (.op 0 true (.op 1 true (.op 2 true (.op 3 true (.op 5 true (.op 6 true (.op 7 true (.op 8 true (.op 9 true (.op 4 true (.op 10 true (.op 11 true (.op 12 true (.op 13 true (.op 14 true (.op 15 true (.op 17 true (.op 18 true (.op 19 true (.op 20 true (.op 21 true (.op 22 true (.op 23 true (.op 24 true (.op 25 true (.op 26 true (.op 27 true (.op 16 true (.op 28 true (.op 29 true (.op 30 true (.op 31 true (.op 32 true (.op 33 true (.op 34 true (.op 35 false (.op 36 true (.op 37 true (.done))))))))))))))))))))))))))))))))))))))) (by kernel_rfl) ?_)
    | ((first | (with_reducible apply WL_op; intro nx hnx) | with_reducible refine Ev_out ?_ | (with_reducible apply popsD_op; intro nx hnx) | (with_reducible refine popsD_alt ?_ ?_; intro nx hnx) | (with_reducible refine pfresh_k hnm fun nm hnm => ?_; (try simp only [fmb] at hnm)) | (with_reducible refine pborn_mu hnm fun nm hnm => ?_; (try simp only [fmb] at hnm)) | (with_reducible refine pmaybe_k ?_; intro bn hbn)); try (simp (maxSteps := 2000000) (disch := omega) only [evb, evd, pbuiltin, constPV, pnck, seqK, blockK, scopeK, pbin, pun, ppick, plen, piaddr, pindex, pfield, pslice, pbound, pconv, pelems, pextract, pmm, PV.mem?, PV.one, PV.cells, pageq, peqs, peq1, pmakes, pstore, pbytes, pmark, psrc, pkey, pnile, pcap, pgrow, List.set, Value.cells, ↓popG_eq, ↓pop.eq_1, ↓List.getElem?_map, ↓List.getElem?_cons_zero, ↓List.getElem?_cons_succ, Value.oneCell', Nat.reduceAdd, Nat.reduceMul, Nat.reduceSub, Nat.reduceLeDiff, Nat.reduceEqDiff, ↓reduceIte, ne_eq, reduceCtorEq, forall_const, exists_and_left, exists_eq_left', eq_self, Nat.reduceLT, Int.reduceLT, Int.reduceLE, Int.reduceToNat, Int.reduceAdd, Int.reduceSub, Int.reduceNeg, hnm, Try.tf0, Try.tf1, Try.tf2, Try.tf3, Try.tf4, Try.tf5, Try.tf22, Try.tf23, Try.tf24, Try.tf28, Try.tf33, Try.tf34, Try.tf35, Try.tf44, Try.tf58, Try.tf65, Try.teq79, Try.call9, Try.call10, Try.call11, Try.call13, Try.call19, Try.call21, Try.call22, Try.call23, List.length_map]); repeat (refine And.intro (by omega) ?_))
    | ((with_reducible first | apply WL_nil | apply W_label | apply W_skip | apply W_exit | apply W_ret | apply popsD_done); try simp only [seqK, blockK, scopeK, ↓reduceIte, Nat.reduceEqDiff])
    | with_reducible exact popsD_stop
    | (with_reducible apply pguard_intro <;> (intro hc; (try simp only [hcb, reduceCtorEq, forall_const, ne_eq] at hc); first | (exfalso; omega) | (exfalso; exact hc trivial) | refine Ev_in ?_))
    | (with_reducible apply W_cond_k; intro _ _ ea eb; (simp only [condK, cob, opnd, constPV, Nat.reduceEqDiff, Nat.reduceLT, ↓reduceIte, hcb, reduceCtorEq, forall_const, ne_eq]); subst ea eb; first | (refine ⟨fun hc => ?_, fun hc => ?_⟩ <;> first | (exfalso; omega) | (exfalso; exact hc trivial) | skip) | skip)
    | (with_reducible apply hnx; clear hnx nx)
    | (with_reducible refine And.intro (by omega) ?_)
    | (with_reducible refine And.intro ?_ ?_)
    | (clear hnx nx; with_reducible apply hnx; clear hnx nx)
    | (clear hnx nx; clear hnx nx; with_reducible apply hnx; clear hnx nx)
    | (clear hnx nx; clear hnx nx; clear hnx nx; with_reducible apply hnx; clear hnx nx))
    with_reducible apply W_seq_k
    intro nx hnx
    repeat' (first
    | (with_reducible first | apply W_block | apply W_scope)
    | (with_reducible refine W_prune 44601495713973229422734928169532163404857287 ?_; simp only [prb, Nat.reducePow, Nat.reduceDiv, Nat.reduceMod, Nat.reduceBEq]; first | (with_reducible apply W_region_l) | with_reducible refine W_region_draw (id := 17) 2 (.op 0 true (.op 1 true (.op 2 true (.op 3 true (.op 4 true (.op 5 true (.op 6 true (.op 7 true (.op 8 false (.op 9 true (.op 10 true (.op 11 true (.op 12 true (.op 13 true (.done))))))))))))))) (by kernel_rfl) ?_ | with_reducible refine W_region_draw (id := 23) 6 (.op 0 true (.op 1 true (.op 2 true (.op 3 true (.op 4 true (.op 5 true (.op 6 true (.op 7 true (.op 8 true (.op 9 true (.op 10 true (.op 11 true (.op 12 true (.op 13 true (.op 14 true (.op 15 true (.op 16 true (.op 17 true (.op 18 true (.op 19 true (.op 20 true (.op 21 true (.op 22 true (.op 23 true (.op 24 true (.op 25 true (.op 26 true (.op 27 false (.op 28 true (.op 29 true (.done))))))))))))))))))))))))))))))) (by kernel_rfl) ?_ | with_reducible refine W_region_draw (id := 43) 7 (.op 0 true (.op 1 true (.op 2 true (.op 3 true (.op 5 true (.op 6 true (.op 7 true (.op 8 true (.op 9 true (.op 4 true (.op 10 true (.op 11 true (.op 12 true (.op 13 true (.op 14 true (.op 15 true (.op 17 true (.op 18 true (.op 19 true (.op 20 true (.op 21 true (.op 22 true (.op 23 true (.op 24 true (.op 25 true (.op 26 true (.op 27 true (.op 16 true (.op 28 true (.op 29 true (.op 30 true (.op 31 true (.op 32 true (.op 33 true (.op 34 true (.op 35 false (.op 36 true (.op 37 true (.done))))))))))))))))))))))))))))))))))))))) (by kernel_rfl) ?_)
    | ((first | (with_reducible apply WL_op; intro nx hnx) | with_reducible refine Ev_out ?_ | (with_reducible apply popsD_op; intro nx hnx) | (with_reducible refine popsD_alt ?_ ?_; intro nx hnx) | (with_reducible refine pfresh_k hnm fun nm hnm => ?_; (try simp only [fmb] at hnm)) | (with_reducible refine pborn_mu hnm fun nm hnm => ?_; (try simp only [fmb] at hnm)) | (with_reducible refine pmaybe_k ?_; intro bn hbn)); try (simp (maxSteps := 2000000) (disch := omega) only [evb, evd, pbuiltin, constPV, pnck, seqK, blockK, scopeK, pbin, pun, ppick, plen, piaddr, pindex, pfield, pslice, pbound, pconv, pelems, pextract, pmm, PV.mem?, PV.one, PV.cells, pageq, peqs, peq1, pmakes, pstore, pbytes, pmark, psrc, pkey, pnile, pcap, pgrow, List.set, Value.cells, ↓popG_eq, ↓pop.eq_1, ↓List.getElem?_map, ↓List.getElem?_cons_zero, ↓List.getElem?_cons_succ, Value.oneCell', Nat.reduceAdd, Nat.reduceMul, Nat.reduceSub, Nat.reduceLeDiff, Nat.reduceEqDiff, ↓reduceIte, ne_eq, reduceCtorEq, forall_const, exists_and_left, exists_eq_left', eq_self, Nat.reduceLT, Int.reduceLT, Int.reduceLE, Int.reduceToNat, Int.reduceAdd, Int.reduceSub, Int.reduceNeg, hnm, Try.tf0, Try.tf1, Try.tf2, Try.tf3, Try.tf4, Try.tf5, Try.tf22, Try.tf23, Try.tf24, Try.tf28, Try.tf33, Try.tf34, Try.tf35, Try.tf44, Try.tf58, Try.tf65, Try.teq79, Try.call9, Try.call10, Try.call11, Try.call13, Try.call19, Try.call21, Try.call22, Try.call23]); repeat (refine And.intro (by omega) ?_))
    | ((with_reducible first | apply WL_nil | apply W_label | apply W_skip | apply W_exit | apply W_ret | apply popsD_done); try simp only [seqK, blockK, scopeK, ↓reduceIte, Nat.reduceEqDiff])
    | with_reducible exact popsD_stop
    | (with_reducible apply pguard_intro <;> (intro hc; (try simp only [hcb, reduceCtorEq, forall_const, ne_eq] at hc); first | (exfalso; omega) | (exfalso; exact hc trivial) | refine Ev_in ?_))
    | (with_reducible apply W_cond_k; intro _ _ ea eb; (simp only [condK, cob, opnd, constPV, Nat.reduceEqDiff, Nat.reduceLT, ↓reduceIte, hcb, reduceCtorEq, forall_const, ne_eq]); subst ea eb; first | (refine ⟨fun hc => ?_, fun hc => ?_⟩ <;> first | (exfalso; omega) | (exfalso; exact hc trivial) | skip) | skip)
    | (with_reducible apply hnx; clear hnx nx)
    | (with_reducible refine And.intro (by omega) ?_)
    | (with_reducible refine And.intro ?_ ?_)
    | (((with_reducible refine pcall_ob c1 ?_); rintro _ Hb' ⟨rfl, hB'⟩; refine Ev_in ?_))
    | (clear hnx nx; with_reducible apply hnx; clear hnx nx)
    | (clear hnx nx; clear hnx nx; with_reducible apply hnx; clear hnx nx)
    | (clear hnx nx; clear hnx nx; clear hnx nx; with_reducible apply hnx; clear hnx nx))
    refine W_at ?_ (lp (Hb' ++ Ha) K fun σ' nT nP hat => hK σ' nT nP _ _ sa (outL sb).2 Ha Hb' ⟨?_, p4.up (Nat.le_succ i), ?_, ?_, ?_, hpk _ 0 p1⟩ hA hB' ?_)
    · refine At_fr (by simp only [wkb, Nat.reduceEqDiff, Nat.reduceLT, ↓reduceIte]) ?_
      exact Hs.refl _
    · exact hI.oa.up (Nat.le_succ i)
    · rw [List.length_append]
      omega
    · rw [List.length_append, List.length_append, List.length_replicate]
      omega
    · intro t ht
      rcases List.mem_append.1 ht with ht | ht
      · exact hI.two t ht
      · rw [(List.mem_replicate.1 ht).2]
        omega
    · exact hat
end Go.PM

namespace Go.PM
open Go.Proofs
attribute [local irreducible] W PCalls pcall pcallI WL
set_option maxRecDepth 100000 in
set_option maxHeartbeats 8000000 in
theorem ord_msgs (G : Globs) (l : List Int) (a b nT nP nG nQ n0 n1 : Int) (to : List Nat) (ps Sa Sb m : List (List UInt8)) (g0 g1 i t : Nat) (hSa : Sa.length ≤ 1000) (hSb : Sb.length ≤ 1000) (ht : t < 2) (H : Heap) (T : List (List UInt8)) (hT : T = if t = 0 then Sb else Sa) (g : Nat) (hg : g = if t = 0 then g0 else g1) (hm : m = (T.drop g).take m.length) (hgm : g + m.length ≤ T.length)
    (hTl : ∀ x ∈ T, x.length ≤ 65536) (K : Exit → PState → Prop) (hK : ∀ σ', At σ' (ordT l a b nT nP nG nQ n0 n1 to ps (if t = 0 then g0 + m.length else g0) (if t = 0 then g1 else g1 + m.length) Sa Sb i H) → K .normal σ') :
    W Try.prog G [] (nav (Try.f5.body.getD .skip) [1, 1, 1, 1, 1, 1, 1, 0, 1, 0, 0, 1, 0, 0, 1, 1, 0, 1, 0, 1, 1, 1, 1, 1, 1, 1, 1, 1]) ⟨fr 214 ((20, .list 1 (m.map pl)) :: (19, pn t) :: ordL l a b nT nP nG nQ to.length ps.length i), ordO nT nP nG nQ n0 n1 to ps g0 g1 Sa Sb H⟩ K := by
  have hnm : True := trivial
  refine W_nd fun nd => ?_
  obtain ⟨hne, -⟩ := ord_ne nd
  clear nd
  simp only [Try.f5, nav, Option.getD_some]
  repeat' (first
    | (with_reducible apply W_seq_k; intro nx hnx)
    | (with_reducible first | apply W_block | apply W_scope)
    | (with_reducible refine W_prune 44601495713973229422734928169532163404857287 ?_; simp only [prb, Nat.reducePow, Nat.reduceDiv, Nat.reduceMod, Nat.reduceBEq]; first | (with_reducible apply W_region_l) | with_reducible refine W_region_draw (id := 17) 2 (.op 0 true (.op 1 true (.op 2 true (.op 3 true (.op 4 true (.op 5 true (.op 6 true (.op 7 true (.op 8 false (.op 9 true (.op 10 true (.op 11 true (.op 12 true (.op 13 true (.done))))))))))))))) (by kernel_rfl) ?_ | with_reducible refine W_region_draw (id := 23) 6 (.op 0 true (.op 1 true (.op 2 true (.op 3 true (.op 4 true (.op 5 true (.op 6 true (.op 7 true (.op 8 true (.op 9 true (.op 10 true (.op 11 true (.op 12 true (.op 13 true (.op 14 true (.op 15 true (.op 16 true (.op 17 true (.op 18 true (.op 19 true (.op 20 true (.op 21 true (.op 22 true (.op 23 true (.op 24 true (.op 25 true (.op 26 true (.op 27 false (.op 28 true (.op 29 true (.done))))))))))))))))))))))))))))))) (by kernel_rfl) ?_ | with_reducible refine W_region_draw (id := 43) 7 (.op 0 true (.op 1 true (.op 2 true (.op 3 true (.op 5 true (.op 6 true (.op 7 true (.op 8 true (.op 9 true (.op 4 true (.op 10 true (.op 11 true (.op 12 true (.op 13 true (.op 14 true (.op 15 true (.op 17 true (.op 18 true (.op 19 true (.op 20 true (.op 21 true (.op 22 true (.op 23 true (.op 24 true (.op 25 true (.op 26 true (.op 27 true (.op 16 true (.op 28 true (.op 29 true (.op 30 true (.op 31 true (.op 32 true (.op 33 true (.op 34 true (.op 35 false (.op 36 true (.op 37 true (.done))))))))))))))))))))))))))))))))))))))) (by kernel_rfl) ?_)
    | ((first | (with_reducible apply WL_op; intro nx hnx) | with_reducible refine Ev_out ?_ | (with_reducible apply popsD_op; intro nx hnx) | (with_reducible refine popsD_alt ?_ ?_; intro nx hnx) | (with_reducible refine pfresh_k hnm fun nm hnm => ?_; (try simp only [fmb] at hnm)) | (with_reducible refine pborn_mu hnm fun nm hnm => ?_; (try simp only [fmb] at hnm)) | (with_reducible refine pmaybe_k ?_; intro bn hbn)); try (simp (maxSteps := 2000000) (disch := omega) only [evb, evd, pbuiltin, constPV, pnck, seqK, blockK, scopeK, pbin, pun, ppick, plen, piaddr, pindex, pfield, pslice, pbound, pconv, pelems, pextract, pmm, PV.mem?, PV.one, PV.cells, pageq, peqs, peq1, pmakes, pstore, pbytes, pmark, psrc, pkey, pnile, pcap, pgrow, List.set, Value.cells, ↓popG_eq, ↓pop.eq_1, ↓List.getElem?_map, ↓List.getElem?_cons_zero, ↓List.getElem?_cons_succ, Value.oneCell', Nat.reduceAdd, Nat.reduceMul, Nat.reduceSub, Nat.reduceLeDiff, Nat.reduceEqDiff, ↓reduceIte, ne_eq, reduceCtorEq, forall_const, exists_and_left, exists_eq_left', eq_self, Nat.reduceLT, Int.reduceLT, Int.reduceLE, Int.reduceToNat, Int.reduceAdd, Int.reduceSub, Int.reduceNeg, hnm, Try.tf0, Try.tf1, Try.tf2, Try.tf3, Try.tf4, Try.tf5, Try.tf22, Try.tf23, Try.tf24, Try.tf28, Try.tf33, Try.tf34, Try.tf35, Try.tf44, Try.tf58, Try.tf65, Try.teq79, Try.call9, Try.call10, Try.call11, Try.call13, Try.call19, Try.call21, Try.call22, Try.call23]); repeat (refine And.intro (by omega) ?_))
    | ((with_reducible first | apply WL_nil | apply W_label | apply W_skip | apply W_exit | apply W_ret | apply popsD_done); try simp only [seqK, blockK, scopeK, ↓reduceIte, Nat.reduceEqDiff])
    | with_reducible exact popsD_stop
    | (with_reducible apply pguard_intro <;> (intro hc; (try simp only [hcb, reduceCtorEq, forall_const, ne_eq] at hc); first | (exfalso; omega) | (exfalso; exact hc trivial) | refine Ev_in ?_))
    | (with_reducible apply W_cond_k; intro _ _ ea eb; (simp only [condK, cob, opnd, constPV, Nat.reduceEqDiff, Nat.reduceLT, ↓reduceIte, hcb, reduceCtorEq, forall_const, ne_eq]); subst ea eb; first | (refine ⟨fun hc => ?_, fun hc => ?_⟩ <;> first | (exfalso; omega) | (exfalso; exact hc trivial) | skip) | skip)
    | (with_reducible apply hnx; clear hnx nx)
    | (with_reducible refine And.intro (by omega) ?_)
    | (with_reducible refine And.intro ?_ ?_)
    | (clear hnx nx; with_reducible apply hnx; clear hnx nx)
    | (clear hnx nx; clear hnx nx; with_reducible apply hnx; clear hnx nx)
    | (clear hnx nx; clear hnx nx; clear hnx nx; with_reducible apply hnx; clear hnx nx))
  refine W_loop_at (fun z τ => ∃ r : Nat, r ≤ m.length ∧ z = m.length - r ∧ τ = ⟨fr 214 ((22, pn r) :: (20, .list 1 (m.map pl)) :: (19, pn t) :: ordL l a b nT nP nG nQ to.length ps.length i), ordO nT nP nG nQ n0 n1 to ps (if t = 0 then g0 + r else g0) (if t = 0 then g1 else g1 + r) Sa Sb H⟩) m.length
    ⟨fr 214 ((22, pn 0) :: (20, .list 1 (m.map pl)) :: (19, pn t) :: ordL l a b nT nP nG nQ to.length ps.length i), ordO nT nP nG nQ n0 n1 to ps g0 g1 Sa Sb H⟩ (by
    refine At_fr (by simp only [wkb, Nat.reduceEqDiff, Nat.reduceLT, ↓reduceIte, pn]) ?_
    exact Hs.refl _) ⟨0, by omega, by omega, by simp⟩ ?_
  rintro z τ ⟨r, hr, rfl, rfl⟩ lp hlp
  by_cases hrl : r < m.length
  · have hlt : g + r < T.length := by omega
    have hget : T[g + r]? = some m[r] := by
      have h1 : m[r]? = some m[r] := List.getElem?_eq_getElem hrl
      rw [← h1]
      conv => rhs; rw [hm]
      rw [List.getElem?_take, if_pos hrl, List.getElem?_drop]
    have hml : m[r].length ≤ 65536 := hTl _ (List.mem_of_getElem? hget)
    have m1 := same_c G m[r] m[r] (by omega)
    rw [decide_eq_true rfl] at m1
    obtain ⟨gr, hgr⟩ : ∃ gr, gr = g + r := ⟨_, rfl⟩
    rw [← hgr] at hget hlt
    have ht2 : t = 0 ∨ t = 1 := by omega
    rcases ht2 with rfl | rfl
    · simp only [if_true] at hT hg hlp ⊢
      subst hT hg
      rw [← hgr]
      repeat' (first
    | (with_reducible apply W_seq_k; intro nx hnx)
    | (with_reducible first | apply W_block | apply W_scope)
    | (with_reducible refine W_prune 44601495713973229422734928169532163404857287 ?_; simp only [prb, Nat.reducePow, Nat.reduceDiv, Nat.reduceMod, Nat.reduceBEq]; first | (with_reducible apply W_region_l) | with_reducible refine W_region_draw (id := 17) 2 (.op 0 true (.op 1 true (.op 2 true (.op 3 true (.op 4 true (.op 5 true (.op 6 true (.op 7 true (.op 8 false (.op 9 true (.op 10 true (.op 11 true (.op 12 true (.op 13 true (.done))))))))))))))) (by kernel_rfl) ?_ | with_reducible refine W_region_draw (id := 23) 6 (.op 0 true (.op 1 true (.op 2 true (.op 3 true (.op 4 true (.op 5 true (.op 6 true (.op 7 true (.op 8 true (.op 9 true (.op 10 true (.op 11 true (.op 12 true (.op 13 true (.op 14 true (.op 15 true (.op 16 true (.op 17 true (.op 18 true (.op 19 true (.op 20 true (.op 21 true (.op 22 true (.op 23 true (.op 24 true (.op 25 true (.op 26 true (.op 27 false (.op 28 true (.op 29 true (.done))))))))))))))))))))))))))))))) (by kernel_rfl) ?_ | with_reducible refine W_region_draw (id := 43) 7 (.op 0 true (.op 1 true (.op 2 true (.op 3 true (.op 5 true (.op 6 true (.op 7 true (.op 8 true (.op 9 true (.op 4 true (.op 10 true (.op 11 true (.op 12 true (.op 13 true (.op 14 true (.op 15 true (.op 17 true (.op 18 true (.op 19 true (.op 20 true (.op 21 true (.op 22 true (.op 23 true (.op 24 true (.op 25 true (.op 26 true (.op 27 true (.op 16 true (.op 28 true (.op 29 true (.op 30 true (.op 31 true (.op 32 true (.op 33 true (.op 34 true (.op 35 false (.op 36 true (.op 37 true (.done))))))))))))))))))))))))))))))))))))))) (by kernel_rfl) ?_)
    | ((first | (with_reducible apply WL_op; intro nx hnx) | with_reducible refine Ev_out ?_ | (with_reducible apply popsD_op; intro nx hnx) | (with_reducible refine popsD_alt ?_ ?_; intro nx hnx) | (with_reducible refine pfresh_k hnm fun nm hnm => ?_; (try simp only [fmb] at hnm)) | (with_reducible refine pborn_mu hnm fun nm hnm => ?_; (try simp only [fmb] at hnm)) | (with_reducible refine pmaybe_k ?_; intro bn hbn)); try (simp (maxSteps := 2000000) (disch := omega) only [evb, evd, pbuiltin, constPV, pnck, seqK, blockK, scopeK, pbin, pun, ppick, plen, piaddr, pindex, pfield, pslice, pbound, pconv, pelems, pextract, pmm, PV.mem?, PV.one, PV.cells, pageq, peqs, peq1, pmakes, pstore, pbytes, pmark, psrc, pkey, pnile, pcap, pgrow, List.set, Value.cells, ↓popG_eq, ↓pop.eq_1, ↓List.getElem?_map, ↓List.getElem?_cons_zero, ↓List.getElem?_cons_succ, Value.oneCell', Nat.reduceAdd, Nat.reduceMul, Nat.reduceSub, Nat.reduceLeDiff, Nat.reduceEqDiff, ↓reduceIte, ne_eq, reduceCtorEq, forall_const, exists_and_left, exists_eq_left', eq_self, Nat.reduceLT, Int.reduceLT, Int.reduceLE, Int.reduceToNat, Int.reduceAdd, Int.reduceSub, Int.reduceNeg, hnm, Try.tf0, Try.tf1, Try.tf2, Try.tf3, Try.tf4, Try.tf5, Try.tf22, Try.tf23, Try.tf24, Try.tf28, Try.tf33, Try.tf34, Try.tf35, Try.tf44, Try.tf58, Try.tf65, Try.teq79, Try.call9, Try.call10, Try.call11, Try.call13, Try.call19, Try.call21, Try.call22, Try.call23, hne, hget]); repeat (refine And.intro (by omega) ?_))
    | ((with_reducible first | apply WL_nil | apply W_label | apply W_skip | apply W_exit | apply W_ret | apply popsD_done); try simp only [seqK, blockK, scopeK, ↓reduceIte, Nat.reduceEqDiff])
    | with_reducible exact popsD_stop
    | (with_reducible apply pguard_intro <;> (intro hc; (try simp only [hcb, reduceCtorEq, forall_const, ne_eq] at hc); first | (exfalso; omega) | (exfalso; exact hc trivial) | refine Ev_in ?_))
    | (with_reducible apply W_cond_k; intro _ _ ea eb; (simp only [condK, cob, opnd, constPV, Nat.reduceEqDiff, Nat.reduceLT, ↓reduceIte, hcb, reduceCtorEq, forall_const, ne_eq]); subst ea eb; first | (refine ⟨fun hc => ?_, fun hc => ?_⟩ <;> first | (exfalso; omega) | (exfalso; exact hc trivial) | skip) | skip)
    | (with_reducible apply hnx; clear hnx nx)
    | (with_reducible refine And.intro (by omega) ?_)
    | (with_reducible refine And.intro ?_ ?_)
    | (with_reducible refine pcall_k (m1) ?_; rintro _ _ ⟨rfl, rfl⟩ -; refine Ev_in ?_)
    | (clear hnx nx; with_reducible apply hnx; clear hnx nx)
    | (clear hnx nx; clear hnx nx; with_reducible apply hnx; clear hnx nx)
    | (clear hnx nx; clear hnx nx; clear hnx nx; with_reducible apply hnx; clear hnx nx))
      all_goals first
        | exact absurd trivial hc
        | (exfalso
           omega)
        | rfl
        | skip
      refine hlp _ (m.length - (r + 1)) ⟨fr 214 ((22, pn (r + 1)) :: (20, .list 1 (m.map pl)) :: (19, pn 0) :: ordL l a b nT nP nG nQ to.length ps.length i), ordO nT nP nG nQ n0 n1 to ps (gr + 1) g1 Sa T H⟩ (by omega) ?_ ⟨r + 1, by omega, rfl, by rw [hgr]; rfl⟩
      refine At_fr (by simp only [wkb, Nat.reduceEqDiff, Nat.reduceLT, ↓reduceIte, pn]) ?_
      refine Hs.perm ?_
      simp only [ordO, pn, Int.natCast_add, Int.cast_ofNat_Int]
      exact List.Perm.refl _
    · simp only [Nat.one_ne_zero, if_false] at hT hg hlp ⊢
      subst hT hg
      rw [← hgr]
      repeat' (first
    | (with_reducible apply W_seq_k; intro nx hnx)
    | (with_reducible first | apply W_block | apply W_scope)
    | (with_reducible refine W_prune 44601495713973229422734928169532163404857287 ?_; simp only [prb, Nat.reducePow, Nat.reduceDiv, Nat.reduceMod, Nat.reduceBEq]; first | (with_reducible apply W_region_l) | with_reducible refine W_region_draw (id := 17) 2 (.op 0 true (.op 1 true (.op 2 true (.op 3 true (.op 4 true (.op 5 true (.op 6 true (.op 7 true (.op 8 false (.op 9 true (.op 10 true (.op 11 true (.op 12 true (.op 13 true (.done))))))))))))))) (by kernel_rfl) ?_ | with_reducible refine W_region_draw (id := 23) 6 (.op 0 true (.op 1 true (.op 2 true (.op 3 true (.op 4 true (.op 5 true (.op 6 true (.op 7 true (.op 8 true (.op 9 true (.op 10 true (.op 11 true (.op 12 true (.op 13 true (.op 14 true (.op 15 true (.op 16 true (.op 17 true (.op 18 true (.op 19 true (.op 20 true (.op 21 true (.op 22 true (.op 23 true (.op 24 true (.op 25 true (.op 26 true (.op 27 false (.op 28 true (.op 29 true (.done))))))))))))))))))))))))))))))) (by kernel_rfl) ?_ | with_reducible refine W_region_draw (id := 43) 7 (.op 0 true (.op 1 true (.op 2 true (.op 3 true (.op 5 true (.op 6 true (.op 7 true (.op 8 true (.op 9 true (.op 4 true (.op 10 true (.op 11 true (.op 12 true (.op 13 true (.op 14 true (.op 15 true (.op 17 true (.op 18 true (.op 19 true (.op 20 true (.op 21 true (.op 22 true (.op 23 true (.op 24 true (.op 25 true (.op 26 true (.op 27 true (.op 16 true (.op 28 true (.op 29 true (.op 30 true (.op 31 true (.op 32 true (.op 33 true (.op 34 true (.op 35 false (.op 36 true (.op 37 true (.done))))))))))))))))))))))))))))))))))))))) (by kernel_rfl) ?_)
    | ((first | (with_reducible apply WL_op; intro nx hnx) | with_reducible refine Ev_out ?_ | (with_reducible apply popsD_op; intro nx hnx) | (with_reducible refine popsD_alt ?_ ?_; intro nx hnx) | (with_reducible refine pfresh_k hnm fun nm hnm => ?_; (try simp only [fmb] at hnm)) | (with_reducible refine pborn_mu hnm fun nm hnm => ?_; (try simp only [fmb] at hnm)) | (with_reducible refine pmaybe_k ?_; intro bn hbn)); try (simp (maxSteps := 2000000) (disch := omega) only [evb, evd, pbuiltin, constPV, pnck, seqK, blockK, scopeK, pbin, pun, ppick, plen, piaddr, pindex, pfield, pslice, pbound, pconv, pelems, pextract, pmm, PV.mem?, PV.one, PV.cells, pageq, peqs, peq1, pmakes, pstore, pbytes, pmark, psrc, pkey, pnile, pcap, pgrow, List.set, Value.cells, ↓popG_eq, ↓pop.eq_1, ↓List.getElem?_map, ↓List.getElem?_cons_zero, ↓List.getElem?_cons_succ, Value.oneCell', Nat.reduceAdd, Nat.reduceMul, Nat.reduceSub, Nat.reduceLeDiff, Nat.reduceEqDiff, ↓reduceIte, ne_eq, reduceCtorEq, forall_const, exists_and_left, exists_eq_left', eq_self, Nat.reduceLT, Int.reduceLT, Int.reduceLE, Int.reduceToNat, Int.reduceAdd, Int.reduceSub, Int.reduceNeg, hnm, Try.tf0, Try.tf1, Try.tf2, Try.tf3, Try.tf4, Try.tf5, Try.tf22, Try.tf23, Try.tf24, Try.tf28, Try.tf33, Try.tf34, Try.tf35, Try.tf44, Try.tf58, Try.tf65, Try.teq79, Try.call9, Try.call10, Try.call11, Try.call13, Try.call19, Try.call21, Try.call22, Try.call23, hne, hget]); repeat (refine And.intro (by omega) ?_))
    | ((with_reducible first | apply WL_nil | apply W_label | apply W_skip | apply W_exit | apply W_ret | apply popsD_done); try simp only [seqK, blockK, scopeK, ↓reduceIte, Nat.reduceEqDiff])
    | with_reducible exact popsD_stop
    | (with_reducible apply pguard_intro <;> (intro hc; (try simp only [hcb, reduceCtorEq, forall_const, ne_eq] at hc); first | (exfalso; omega) | (exfalso; exact hc trivial) | refine Ev_in ?_))
    | (with_reducible apply W_cond_k; intro _ _ ea eb; (simp only [condK, cob, opnd, constPV, Nat.reduceEqDiff, Nat.reduceLT, ↓reduceIte, hcb, reduceCtorEq, forall_const, ne_eq]); subst ea eb; first | (refine ⟨fun hc => ?_, fun hc => ?_⟩ <;> first | (exfalso; omega) | (exfalso; exact hc trivial) | skip) | skip)
    | (with_reducible apply hnx; clear hnx nx)
    | (with_reducible refine And.intro (by omega) ?_)
    | (with_reducible refine And.intro ?_ ?_)
    | (with_reducible refine pcall_k (m1) ?_; rintro _ _ ⟨rfl, rfl⟩ -; refine Ev_in ?_)
    | (clear hnx nx; with_reducible apply hnx; clear hnx nx)
    | (clear hnx nx; clear hnx nx; with_reducible apply hnx; clear hnx nx)
    | (clear hnx nx; clear hnx nx; clear hnx nx; with_reducible apply hnx; clear hnx nx))
      all_goals first
        | exact absurd trivial hc
        | (exfalso
           omega)
        | rfl
        | skip
      refine hlp _ (m.length - (r + 1)) ⟨fr 214 ((22, pn (r + 1)) :: (20, .list 1 (m.map pl)) :: (19, pn 1) :: ordL l a b nT nP nG nQ to.length ps.length i), ordO nT nP nG nQ n0 n1 to ps g0 (gr + 1) T Sb H⟩ (by omega) ?_ ⟨r + 1, by omega, rfl, by rw [hgr]; rfl⟩
      refine At_fr (by simp only [wkb, Nat.reduceEqDiff, Nat.reduceLT, ↓reduceIte, pn]) ?_
      refine Hs.perm ?_
      simp only [ordO, pn, Int.natCast_add, Int.cast_ofNat_Int]
      exact List.Perm.refl _
  · have hr0 : r = m.length := by omega
    subst hr0
    repeat' (first
    | (with_reducible apply W_seq_k; intro nx hnx)
    | (with_reducible first | apply W_block | apply W_scope)
    | (with_reducible refine W_prune 44601495713973229422734928169532163404857287 ?_; simp only [prb, Nat.reducePow, Nat.reduceDiv, Nat.reduceMod, Nat.reduceBEq]; first | (with_reducible apply W_region_l) | with_reducible refine W_region_draw (id := 17) 2 (.op 0 true (.op 1 true (.op 2 true (.op 3 true (.op 4 true (.op 5 true (.op 6 true (.op 7 true (.op 8 false (.op 9 true (.op 10 true (.op 11 true (.op 12 true (.op 13 true (.done))))))))))))))) (by kernel_rfl) ?_ | with_reducible refine W_region_draw (id := 23) 6 (.op 0 true (.op 1 true (.op 2 true (.op 3 true (.op 4 true (.op 5 true (.op 6 true (.op 7 true (.op 8 true (.op 9 true (.op 10 true (.op 11 true (.op 12 true (.op 13 true (.op 14 true (.op 15 true (.op 16 true (.op 17 true (.op 18 true (.op 19 true (.op 20 true (.op 21 true (.op 22 true (.op 23 true (.op 24 true (.op 25 true (.op 26 true (.op 27 false (.op 28 true (.op 29 true (.done))))))))))))))))))))))))))))))) (by kernel_rfl) ?_ | with_reducible refine W_region_draw (id := 43) 7 (.op 0 true (.op 1 true (.op 2 true (.op 3 true (.op 5 true (.op 6 true (.op 7 true (.op 8 true (.op 9 true (.op 4 true (.op 10 true (.op 11 true (.op 12 true (.op 13 true (.op 14 true (.op 15 true (.op 17 true (.op 18 true (.op 19 true (.op 20 true (.op 21 true (.op 22 true (.op 23 true (.op 24 true (.op 25 true (.op 26 true (.op 27 true (.op 16 true (.op 28 true (.op 29 true (.op 30 true (.op 31 true (.op 32 true (.op 33 true (.op 34 true (.op 35 false (.op 36 true (.op 37 true (.done))))))))))))))))))))))))))))))))))))))) (by kernel_rfl) ?_)
    | ((first | (with_reducible apply WL_op; intro nx hnx) | with_reducible refine Ev_out ?_ | (with_reducible apply popsD_op; intro nx hnx) | (with_reducible refine popsD_alt ?_ ?_; intro nx hnx) | (with_reducible refine pfresh_k hnm fun nm hnm => ?_; (try simp only [fmb] at hnm)) | (with_reducible refine pborn_mu hnm fun nm hnm => ?_; (try simp only [fmb] at hnm)) | (with_reducible refine pmaybe_k ?_; intro bn hbn)); try (simp (maxSteps := 2000000) (disch := omega) only [evb, evd, pbuiltin, constPV, pnck, seqK, blockK, scopeK, pbin, pun, ppick, plen, piaddr, pindex, pfield, pslice, pbound, pconv, pelems, pextract, pmm, PV.mem?, PV.one, PV.cells, pageq, peqs, peq1, pmakes, pstore, pbytes, pmark, psrc, pkey, pnile, pcap, pgrow, List.set, Value.cells, ↓popG_eq, ↓pop.eq_1, ↓List.getElem?_map, ↓List.getElem?_cons_zero, ↓List.getElem?_cons_succ, Value.oneCell', Nat.reduceAdd, Nat.reduceMul, Nat.reduceSub, Nat.reduceLeDiff, Nat.reduceEqDiff, ↓reduceIte, ne_eq, reduceCtorEq, forall_const, exists_and_left, exists_eq_left', eq_self, Nat.reduceLT, Int.reduceLT, Int.reduceLE, Int.reduceToNat, Int.reduceAdd, Int.reduceSub, Int.reduceNeg, hnm, Try.tf0, Try.tf1, Try.tf2, Try.tf3, Try.tf4, Try.tf5, Try.tf22, Try.tf23, Try.tf24, Try.tf28, Try.tf33, Try.tf34, Try.tf35, Try.tf44, Try.tf58, Try.tf65, Try.teq79, Try.call9, Try.call10, Try.call11, Try.call13, Try.call19, Try.call21, Try.call22, Try.call23]); repeat (refine And.intro (by omega) ?_))
    | ((with_reducible first | apply WL_nil | apply W_label | apply W_skip | apply W_exit | apply W_ret | apply popsD_done); try simp only [seqK, blockK, scopeK, ↓reduceIte, Nat.reduceEqDiff])
    | with_reducible exact popsD_stop
    | (with_reducible apply pguard_intro <;> (intro hc; (try simp only [hcb, reduceCtorEq, forall_const, ne_eq] at hc); first | (exfalso; omega) | (exfalso; exact hc trivial) | refine Ev_in ?_))
    | (with_reducible apply W_cond_k; intro _ _ ea eb; (simp only [condK, cob, opnd, constPV, Nat.reduceEqDiff, Nat.reduceLT, ↓reduceIte, hcb, reduceCtorEq, forall_const, ne_eq]); subst ea eb; first | (refine ⟨fun hc => ?_, fun hc => ?_⟩ <;> first | (exfalso; omega) | (exfalso; exact hc trivial) | skip) | skip)
    | (with_reducible apply hnx; clear hnx nx)
    | (with_reducible refine And.intro (by omega) ?_)
    | (with_reducible refine And.intro ?_ ?_)
    | (clear hnx nx; with_reducible apply hnx; clear hnx nx)
    | (clear hnx nx; clear hnx nx; with_reducible apply hnx; clear hnx nx)
    | (clear hnx nx; clear hnx nx; clear hnx nx; with_reducible apply hnx; clear hnx nx))
    all_goals first
      | exact absurd trivial hc
      | (exfalso
         omega)
      | skip
    refine hK _ ?_
    refine At_fr (by simp only [wkb, Nat.reduceEqDiff, Nat.reduceLT, ↓reduceIte]) ?_
    exact Hs.refl _
theorem OrdS.in_a {i : Nat} {key : UInt64} {Sa Sb : List (List UInt8)} {sa sb s' : LE} {ps : List (List UInt8)} {to : List Nat} (h : OrdS i key Sa Sb sa sb ps to) (h1 : OrdE (i + 1) key Sa Sb sb.got s') (h2 : sa.got ≤ s'.got) : OrdS (i + 1) key Sa Sb s' sb ps to := by
  refine ⟨h1, (h.ob.up (Nat.le_succ i)).more h2 h1.got, by have := h.plen; omega, h.tolen, h.two, fun j x t hx ht => ?_⟩
  have := h.pk j x t hx ht
  split
  · rename_i h0
    simpa only [h0, if_true] using this
  · rename_i h0
    simp only [h0, if_false] at this
    exact this.mono h2 ⟨[], by simp⟩
theorem OrdS.in_b {i : Nat} {key : UInt64} {Sa Sb : List (List UInt8)} {sa sb s' : LE} {ps : List (List UInt8)} {to : List Nat} (h : OrdS i key Sa Sb sa sb ps to) (h1 : OrdE (i + 1) key Sb Sa sa.got s') (h2 : sb.got ≤ s'.got) : OrdS (i + 1) key Sa Sb sa s' ps to := by
  refine ⟨(h.oa.up (Nat.le_succ i)).more h2 h1.got, h1, by have := h.plen; omega, h.tolen, h.two, fun j x t hx ht => ?_⟩
  have := h.pk j x t hx ht
  split
  · rename_i h0
    simp only [h0, if_true] at this
    exact this.mono h2 ⟨[], by simp⟩
  · rename_i h0
    simpa only [h0, if_false] using this
set_option maxRecDepth 100000 in
set_option maxHeartbeats 8000000 in
theorem ord_in (G : Globs) (key : UInt64) (l : List Int) (a b nT nP nG nQ n0 n1 : Int) (to : List Nat) (ps Sa Sb : List (List UInt8)) (sa sb : LE) (i : Nat) (hi : i < 80) (n : Nat) (hn : n < 1073741824) (hI : OrdS i key Sa Sb sa sb ps to) (Ha Hb : Heap) (hA : IsEnd a sa Ha) (hB : IsEnd b sb Hb)
    (K : Exit → PState → Prop) (hK : ∀ σ' sa sb Ha Hb, OrdS (i + 1) key Sa Sb sa sb ps to → IsEnd a sa Ha → IsEnd b sb Hb → At σ' (ordT l a b nT nP nG nQ n0 n1 to ps sa.got sb.got Sa Sb i (Hb ++ Ha)) → K .normal σ')
    (hK1 : ∀ σ', At σ' (ordT l a b nT nP nG nQ n0 n1 to ps sa.got sb.got Sa Sb i (Hb ++ Ha)) → K (.exit 1) σ') :
    W Try.prog G [] (nav (Try.f5.body.getD .skip) [1, 1, 1, 1, 1, 1, 1, 0, 1, 0, 0, 1, 0, 0, 1, 1, 0, 1, 0, 1, 1, 1, 1]) ⟨fr 214 ((13, pn n) :: ordL l a b nT nP nG nQ to.length ps.length i), ordO nT nP nG nQ n0 n1 to ps sa.got sb.got Sa Sb (Hb ++ Ha)⟩ K := by
  have hnm : True := trivial
  refine W_nd fun nd => ?_
  obtain ⟨hne, -⟩ := ord_ne nd
  clear nd
  have hpl := hI.plen
  have htl := hI.tolen
  by_cases h0 : ps.length = 0
  · simp only [Try.f5, nav, Option.getD_some]
    repeat' (first
    | (with_reducible apply W_seq_k; intro nx hnx)
    | (with_reducible first | apply W_block | apply W_scope)
    | (with_reducible refine W_prune 44601495713973229422734928169532163404857287 ?_; simp only [prb, Nat.reducePow, Nat.reduceDiv, Nat.reduceMod, Nat.reduceBEq]; first | (with_reducible apply W_region_l) | with_reducible refine W_region_draw (id := 17) 2 (.op 0 true (.op 1 true (.op 2 true (.op 3 true (.op 4 true (.op 5 true (.op 6 true (.op 7 true (.op 8 false (.op 9 true (.op 10 true (.op 11 true (.op 12 true (.op 13 true (.done))))))))))))))) (by kernel_rfl) ?_ | with_reducible refine W_region_draw (id := 23) 6 (.op 0 true (.op 1 true (.op 2 true (.op 3 true (.op 4 true (.op 5 true (.op 6 true (.op 7 true (.op 8 true (.op 9 true (.op 10 true (.op 11 true (.op 12 true (.op 13 true (.op 14 true (.op 15 true (.op 16 true (.op 17 true (.op 18 true (.op 19 true (.op 20 true (.op 21 true (.op 22 true (.op 23 true (.op 24 true (.op 25 true (.op 26 true (.op 27 false (.op 28 true (.op 29 true (.done))))))))))))))))))))))))))))))) (by kernel_rfl) ?_ | with_reducible refine W_region_draw (id := 43) 7 (.op 0 true (.op 1 true (.op 2 true (.op 3 true (.op 5 true (.op 6 true (.op 7 true (.op 8 true (.op 9 true (.op 4 true (.op 10 true (.op 11 true (.op 12 true (.op 13 true (.op 14 true (.op 15 true (.op 17 true (.op 18 true (.op 19 true (.op 20 true (.op 21 true (.op 22 true (.op 23 true (.op 24 true (.op 25 true (.op 26 true (.op 27 true (.op 16 true (.op 28 true (.op 29 true (.op 30 true (.op 31 true (.op 32 true (.op 33 true (.op 34 true (.op 35 false (.op 36 true (.op 37 true (.done))))))))))))))))))))))))))))))))))))))) (by kernel_rfl) ?_)
    | ((first | (with_reducible apply WL_op; intro nx hnx) | with_reducible refine Ev_out ?_ | (with_reducible apply popsD_op; intro nx hnx) | (with_reducible refine popsD_alt ?_ ?_; intro nx hnx) | (with_reducible refine pfresh_k hnm fun nm hnm => ?_; (try simp only [fmb] at hnm)) | (with_reducible refine pborn_mu hnm fun nm hnm => ?_; (try simp only [fmb] at hnm)) | (with_reducible refine pmaybe_k ?_; intro bn hbn)); try (simp (maxSteps := 2000000) (disch := omega) only [evb, evd, pbuiltin, constPV, pnck, seqK, blockK, scopeK, pbin, pun, ppick, plen, piaddr, pindex, pfield, pslice, pbound, pconv, pelems, pextract, pmm, PV.mem?, PV.one, PV.cells, pageq, peqs, peq1, pmakes, pstore, pbytes, pmark, psrc, pkey, pnile, pcap, pgrow, List.set, Value.cells, ↓popG_eq, ↓pop.eq_1, ↓List.getElem?_map, ↓List.getElem?_cons_zero, ↓List.getElem?_cons_succ, Value.oneCell', Nat.reduceAdd, Nat.reduceMul, Nat.reduceSub, Nat.reduceLeDiff, Nat.reduceEqDiff, ↓reduceIte, ne_eq, reduceCtorEq, forall_const, exists_and_left, exists_eq_left', eq_self, Nat.reduceLT, Int.reduceLT, Int.reduceLE, Int.reduceToNat, Int.reduceAdd, Int.reduceSub, Int.reduceNeg, hnm, Try.tf0, Try.tf1, Try.tf2, Try.tf3, Try.tf4, Try.tf5, Try.tf22, Try.tf23, Try.tf24, Try.tf28, Try.tf33, Try.tf34, Try.tf35, Try.tf44, Try.tf58, Try.tf65, Try.teq79, Try.call9, Try.call10, Try.call11, Try.call13, Try.call19, Try.call21, Try.call22, Try.call23]); repeat (refine And.intro (by omega) ?_))
    | ((with_reducible first | apply WL_nil | apply W_label | apply W_skip | apply W_exit | apply W_ret | apply popsD_done); try simp only [seqK, blockK, scopeK, ↓reduceIte, Nat.reduceEqDiff])
    | with_reducible exact popsD_stop
    | (with_reducible apply pguard_intro <;> (intro hc; (try simp only [hcb, reduceCtorEq, forall_const, ne_eq] at hc); first | (exfalso; omega) | (exfalso; exact hc trivial) | refine Ev_in ?_))
    | (with_reducible apply W_cond_k; intro _ _ ea eb; (simp only [condK, cob, opnd, constPV, Nat.reduceEqDiff, Nat.reduceLT, ↓reduceIte, hcb, reduceCtorEq, forall_const, ne_eq]); subst ea eb; first | (refine ⟨fun hc => ?_, fun hc => ?_⟩ <;> first | (exfalso; omega) | (exfalso; exact hc trivial) | skip) | skip)
    | (with_reducible apply hnx; clear hnx nx)
    | (with_reducible refine And.intro (by omega) ?_)
    | (with_reducible refine And.intro ?_ ?_)
    | (clear hnx nx; with_reducible apply hnx; clear hnx nx)
    | (clear hnx nx; clear hnx nx; with_reducible apply hnx; clear hnx nx)
    | (clear hnx nx; clear hnx nx; clear hnx nx; with_reducible apply hnx; clear hnx nx))
    all_goals first
      | exact absurd trivial hc
      | (exfalso
         omega)
      | skip
    refine hK1 _ ?_
    refine At_fr (by simp only [wkb, Nat.reduceEqDiff, Nat.reduceLT, ↓reduceIte]) ?_
    exact Hs.refl _
  · have d2 : Int.tdiv (n : Int) 2 = ((n / 2 : Nat) : Int) := (Int.ofNat_tdiv n 2).symm
    have hnb : n / 2 < 1073741824 := by omega
    generalize n / 2 = n2 at *
    obtain ⟨j, hj⟩ : ∃ j, j = n2 % ps.length := ⟨_, rfl⟩
    have hjl : j < ps.length := by rw [hj]; exact Nat.mod_lt _ (by omega)
    have rj : Int.tmod (n2 : Int) (ps.length : Int) = (j : Int) := by rw [hj]; exact (Int.ofNat_tmod _ _).symm
    clear hj
    obtain ⟨x, hx⟩ : ∃ x, ps[j]? = some x := ⟨_, List.getElem?_eq_getElem hjl⟩
    obtain ⟨t, ht⟩ : ∃ t, to[j]? = some t := ⟨_, List.getElem?_eq_getElem (by omega)⟩
    have hpk := hI.pk j x t hx ht
    have ht2 : t < 2 := hI.two t (List.mem_of_getElem? ht)
    have ht3 : t = 0 ∨ t = 1 := by omega
    have l1 := hI.oa.len
    have l2 := hI.ob.len
    have l3 := hI.oa.pg
    have l4 := hI.ob.pg
    rcases ht3 with rfl | rfl
    · simp only [if_true] at hpk
      obtain ⟨m, s', e1, e2, e3, e4⟩ := hI.oa.in_ (by omega) hpk
      have hxl := hpk.len (by omega) (by omega)
      have c1 := in_k G e1 hA (by omega) (hI.oa.okE (by omega))
      have hgot := e4.got
      rw [e3] at hgot
      have mg := fun Ha K hK => ord_msgs G l a b nT nP nG nQ n0 n1 to ps Sa Sb m sa.got sb.got i 0 (by omega) (by omega) (by omega) (Hb ++ Ha) Sb rfl sa.got rfl e2 hgot hI.ob.msgs K hK
      simp only [Try.f5, nav, Option.getD_some] at mg ⊢
      repeat' (first
    | (with_reducible refine W_at ?_ (mg Ha' _ ?_))
    | (with_reducible apply W_seq_k; intro nx hnx)
    | (with_reducible first | apply W_block | apply W_scope)
    | (with_reducible refine W_prune 44601495713973229422734928169532163404857287 ?_; simp only [prb, Nat.reducePow, Nat.reduceDiv, Nat.reduceMod, Nat.reduceBEq]; first | (with_reducible apply W_region_l) | with_reducible refine W_region_draw (id := 17) 2 (.op 0 true (.op 1 true (.op 2 true (.op 3 true (.op 4 true (.op 5 true (.op 6 true (.op 7 true (.op 8 false (.op 9 true (.op 10 true (.op 11 true (.op 12 true (.op 13 true (.done))))))))))))))) (by kernel_rfl) ?_ | with_reducible refine W_region_draw (id := 23) 6 (.op 0 true (.op 1 true (.op 2 true (.op 3 true (.op 4 true (.op 5 true (.op 6 true (.op 7 true (.op 8 true (.op 9 true (.op 10 true (.op 11 true (.op 12 true (.op 13 true (.op 14 true (.op 15 true (.op 16 true (.op 17 true (.op 18 true (.op 19 true (.op 20 true (.op 21 true (.op 22 true (.op 23 true (.op 24 true (.op 25 true (.op 26 true (.op 27 false (.op 28 true (.op 29 true (.done))))))))))))))))))))))))))))))) (by kernel_rfl) ?_ | with_reducible refine W_region_draw (id := 43) 7 (.op 0 true (.op 1 true (.op 2 true (.op 3 true (.op 5 true (.op 6 true (.op 7 true (.op 8 true (.op 9 true (.op 4 true (.op 10 true (.op 11 true (.op 12 true (.op 13 true (.op 14 true (.op 15 true (.op 17 true (.op 18 true (.op 19 true (.op 20 true (.op 21 true (.op 22 true (.op 23 true (.op 24 true (.op 25 true (.op 26 true (.op 27 true (.op 16 true (.op 28 true (.op 29 true (.op 30 true (.op 31 true (.op 32 true (.op 33 true (.op 34 true (.op 35 false (.op 36 true (.op 37 true (.done))))))))))))))))))))))))))))))))))))))) (by kernel_rfl) ?_)
    | ((first | (with_reducible apply WL_op; intro nx hnx) | with_reducible refine Ev_out ?_ | (with_reducible apply popsD_op; intro nx hnx) | (with_reducible refine popsD_alt ?_ ?_; intro nx hnx) | (with_reducible refine pfresh_k hnm fun nm hnm => ?_; (try simp only [fmb] at hnm)) | (with_reducible refine pborn_mu hnm fun nm hnm => ?_; (try simp only [fmb] at hnm)) | (with_reducible refine pmaybe_k ?_; intro bn hbn)); try (simp (maxSteps := 2000000) (disch := omega) only [evb, evd, pbuiltin, constPV, pnck, seqK, blockK, scopeK, pbin, pun, ppick, plen, piaddr, pindex, pfield, pslice, pbound, pconv, pelems, pextract, pmm, PV.mem?, PV.one, PV.cells, pageq, peqs, peq1, pmakes, pstore, pbytes, pmark, psrc, pkey, pnile, pcap, pgrow, List.set, Value.cells, ↓popG_eq, ↓pop.eq_1, ↓List.getElem?_map, ↓List.getElem?_cons_zero, ↓List.getElem?_cons_succ, Value.oneCell', Nat.reduceAdd, Nat.reduceMul, Nat.reduceSub, Nat.reduceLeDiff, Nat.reduceEqDiff, ↓reduceIte, ne_eq, reduceCtorEq, forall_const, exists_and_left, exists_eq_left', eq_self, Nat.reduceLT, Int.reduceLT, Int.reduceLE, Int.reduceToNat, Int.reduceAdd, Int.reduceSub, Int.reduceNeg, hnm, Try.tf0, Try.tf1, Try.tf2, Try.tf3, Try.tf4, Try.tf5, Try.tf22, Try.tf23, Try.tf24, Try.tf28, Try.tf33, Try.tf34, Try.tf35, Try.tf44, Try.tf58, Try.tf65, Try.teq79, Try.call9, Try.call10, Try.call11, Try.call13, Try.call19, Try.call21, Try.call22, Try.call23, hne, d2, rj, hx, ht]); repeat (refine And.intro (by omega) ?_))
    | ((with_reducible first | apply WL_nil | apply W_label | apply W_skip | apply W_exit | apply W_ret | apply popsD_done); try simp only [seqK, blockK, scopeK, ↓reduceIte, Nat.reduceEqDiff])
    | with_reducible exact popsD_stop
    | (with_reducible apply pguard_intro <;> (intro hc; (try simp only [hcb, reduceCtorEq, forall_const, ne_eq] at hc); first | (exfalso; omega) | (exfalso; exact hc trivial) | refine Ev_in ?_))
    | (with_reducible apply W_cond_k; intro _ _ ea eb; (simp only [condK, cob, opnd, constPV, Nat.reduceEqDiff, Nat.reduceLT, ↓reduceIte, hcb, reduceCtorEq, forall_const, ne_eq]); subst ea eb; first | (refine ⟨fun hc => ?_, fun hc => ?_⟩ <;> first | (exfalso; omega) | (exfalso; exact hc trivial) | skip) | skip)
    | (with_reducible apply hnx; clear hnx nx)
    | (with_reducible refine And.intro (by omega) ?_)
    | (with_reducible refine And.intro ?_ ?_)
    | (((with_reducible refine pcall_oa c1 ?_); rintro _ Ha' ⟨rfl, hA'⟩; refine Ev_in ?_))
    | (clear hnx nx; with_reducible apply hnx; clear hnx nx)
    | (clear hnx nx; clear hnx nx; with_reducible apply hnx; clear hnx nx)
    | (clear hnx nx; clear hnx nx; clear hnx nx; with_reducible apply hnx; clear hnx nx))
      all_goals first
        | exact absurd trivial hc
        | (exfalso
           omega)
        | (refine At_fr (by simp only [wkb, Nat.reduceEqDiff, Nat.reduceLT, ↓reduceIte]) ?_
           exact Hs.refl _)
        | skip
      all_goals
        intro σ' hat
        simp only [if_true] at hat
        rw [← e3] at hat
        exact hK σ' s' sb Ha' Hb (hI.in_a e4 (by omega)) hA' hB hat
    · simp only [Nat.one_ne_zero, if_false] at hpk
      obtain ⟨m, s', e1, e2, e3, e4⟩ := hI.ob.in_ (by omega) hpk
      have hxl := hpk.len (by omega) (by omega)
      have c1 := in_k G e1 hB (by omega) (hI.ob.okE (by omega))
      have hgot := e4.got
      rw [e3] at hgot
      have mg := fun Hb K hK => ord_msgs G l a b nT nP nG nQ n0 n1 to ps Sa Sb m sa.got sb.got i 1 (by omega) (by omega) (by omega) (Hb ++ Ha) Sa rfl sb.got rfl e2 hgot hI.oa.msgs K hK
      simp only [Try.f5, nav, Option.getD_some] at mg ⊢
      repeat' (first
    | (with_reducible refine W_at ?_ (mg Hb' _ ?_))
    | (with_reducible apply W_seq_k; intro nx hnx)
    | (with_reducible first | apply W_block | apply W_scope)
    | (with_reducible refine W_prune 44601495713973229422734928169532163404857287 ?_; simp only [prb, Nat.reducePow, Nat.reduceDiv, Nat.reduceMod, Nat.reduceBEq]; first | (with_reducible apply W_region_l) | with_reducible refine W_region_draw (id := 17) 2 (.op 0 true (.op 1 true (.op 2 true (.op 3 true (.op 4 true (.op 5 true (.op 6 true (.op 7 true (.op 8 false (.op 9 true (.op 10 true (.op 11 true (.op 12 true (.op 13 true (.done))))))))))))))) (by kernel_rfl) ?_ | with_reducible refine W_region_draw (id := 23) 6 (.op 0 true (.op 1 true (.op 2 true (.op 3 true (.op 4 true (.op 5 true (.op 6 true (.op 7 true (.op 8 true (.op 9 true (.op 10 true (.op 11 true (.op 12 true (.op 13 true (.op 14 true (.op 15 true (.op 16 true (.op 17 true (.op 18 true (.op 19 true (.op 20 true (.op 21 true (.op 22 true (.op 23 true (.op 24 true (.op 25 true (.op 26 true (.op 27 false (.op 28 true (.op 29 true (.done))))))))))))))))))))))))))))))) (by kernel_rfl) ?_ | with_reducible refine W_region_draw (id := 43) 7 (.op 0 true (.op 1 true (.op 2 true (.op 3 true (.op 5 true (.op 6 true (.op 7 true (.op 8 true (.op 9 true (.op 4 true (.op 10 true (.op 11 true (.op 12 true (.op 13 true (.op 14 true (.op 15 true (.op 17 true (.op 18 true (.op 19 true (.op 20 true (.op 21 true (.op 22 true (.op 23 true (.op 24 true (.op 25 true (.op 26 true (.op 27 true (.op 16 true (.op 28 true (.op 29 true (.op 30 true (.op 31 true (.op 32 true (.op 33 true (.op 34 true (.op 35 false (.op 36 true (.op 37 true (.done))))))))))))))))))))))))))))))))))))))) (by kernel_rfl) ?_)
    | ((first | (with_reducible apply WL_op; intro nx hnx) | with_reducible refine Ev_out ?_ | (with_reducible apply popsD_op; intro nx hnx) | (with_reducible refine popsD_alt ?_ ?_; intro nx hnx) | (with_reducible refine pfresh_k hnm fun nm hnm => ?_; (try simp only [fmb] at hnm)) | (with_reducible refine pborn_mu hnm fun nm hnm => ?_; (try simp only [fmb] at hnm)) | (with_reducible refine pmaybe_k ?_; intro bn hbn)); try (simp (maxSteps := 2000000) (disch := omega) only [evb, evd, pbuiltin, constPV, pnck, seqK, blockK, scopeK, pbin, pun, ppick, plen, piaddr, pindex, pfield, pslice, pbound, pconv, pelems, pextract, pmm, PV.mem?, PV.one, PV.cells, pageq, peqs, peq1, pmakes, pstore, pbytes, pmark, psrc, pkey, pnile, pcap, pgrow, List.set, Value.cells, ↓popG_eq, ↓pop.eq_1, ↓List.getElem?_map, ↓List.getElem?_cons_zero, ↓List.getElem?_cons_succ, Value.oneCell', Nat.reduceAdd, Nat.reduceMul, Nat.reduceSub, Nat.reduceLeDiff, Nat.reduceEqDiff, ↓reduceIte, ne_eq, reduceCtorEq, forall_const, exists_and_left, exists_eq_left', eq_self, Nat.reduceLT, Int.reduceLT, Int.reduceLE, Int.reduceToNat, Int.reduceAdd, Int.reduceSub, Int.reduceNeg, hnm, Try.tf0, Try.tf1, Try.tf2, Try.tf3, Try.tf4, Try.tf5, Try.tf22, Try.tf23, Try.tf24, Try.tf28, Try.tf33, Try.tf34, Try.tf35, Try.tf44, Try.tf58, Try.tf65, Try.teq79, Try.call9, Try.call10, Try.call11, Try.call13, Try.call19, Try.call21, Try.call22, Try.call23, hne, d2, rj, hx, ht]); repeat (refine And.intro (by omega) ?_))
    | ((with_reducible first | apply WL_nil | apply W_label | apply W_skip | apply W_exit | apply W_ret | apply popsD_done); try simp only [seqK, blockK, scopeK, ↓reduceIte, Nat.reduceEqDiff])
    | with_reducible exact popsD_stop
    | (with_reducible apply pguard_intro <;> (intro hc; (try simp only [hcb, reduceCtorEq, forall_const, ne_eq] at hc); first | (exfalso; omega) | (exfalso; exact hc trivial) | refine Ev_in ?_))
    | (with_reducible apply W_cond_k; intro _ _ ea eb; (simp only [condK, cob, opnd, constPV, Nat.reduceEqDiff, Nat.reduceLT, ↓reduceIte, hcb, reduceCtorEq, forall_const, ne_eq]); subst ea eb; first | (refine ⟨fun hc => ?_, fun hc => ?_⟩ <;> first | (exfalso; omega) | (exfalso; exact hc trivial) | skip) | skip)
    | (with_reducible apply hnx; clear hnx nx)
    | (with_reducible refine And.intro (by omega) ?_)
    | (with_reducible refine And.intro ?_ ?_)
    | (((with_reducible refine pcall_ob c1 ?_); rintro _ Hb' ⟨rfl, hB'⟩; refine Ev_in ?_))
    | (clear hnx nx; with_reducible apply hnx; clear hnx nx)
    | (clear hnx nx; clear hnx nx; with_reducible apply hnx; clear hnx nx)
    | (clear hnx nx; clear hnx nx; clear hnx nx; with_reducible apply hnx; clear hnx nx))
      all_goals first
        | exact absurd trivial hc
        | (exfalso
           omega)
        | (refine At_fr (by simp only [wkb, Nat.reduceEqDiff, Nat.reduceLT, ↓reduceIte]) ?_
           exact Hs.refl _)
        | skip
      all_goals
        intro σ' hat
        simp only [Nat.one_ne_zero, if_false] at hat
        rw [← e3] at hat
        exact hK σ' sa s' Ha Hb' (hI.in_b e4 (by omega)) hA hB' hat
end Go.PM

namespace Go.PM
open Go.Proofs
attribute [local irreducible] W PCalls pcall pcallI WL
theorem ord_look {a b nT nP nG nQ n0 n1 : Int} {to : List Nat} {ps Sa Sb : List (List UInt8)} {g0 g1 : Nat} {sa sb : LE} {Ha Hb : Heap} (hA : IsEnd a sa Ha) (hB : IsEnd b sb Hb) (nd : (names (ordO nT nP nG nQ n0 n1 to ps g0 g1 Sa Sb (Hb ++ Ha))).Nodup) :
    (∃ w m, look (ordO nT nP nG nQ n0 n1 to ps g0 g1 Sa Sb (Hb ++ Ha)) a = some ⟨65, false, 0, endC w m sa⟩) ∧ ∃ w m, look (ordO nT nP nG nQ n0 n1 to ps g0 g1 Sa Sb (Hb ++ Ha)) b = some ⟨65, false, 0, endC w m sb⟩ := by
  obtain ⟨w1, m1, rfl⟩ := hA
  obtain ⟨w2, m2, rfl⟩ := hB
  exact ⟨⟨w1, m1, look_in (by simp) nd⟩, ⟨w2, m2, look_in (by simp) nd⟩⟩
set_option maxRecDepth 100000 in
set_option maxHeartbeats 8000000 in
theorem ord_check (G : Globs) (key : UInt64) (l : List Int) (a b nT nP nG nQ n0 n1 : Int) (to : List Nat) (ps Sa Sb : List (List UInt8)) (sa sb : LE) (i i' : Nat) (hi : i ≤ 100) (hI : OrdS i key Sa Sb sa sb ps to) (Ha Hb : Heap) (hA : IsEnd a sa Ha) (hB : IsEnd b sb Hb)
    (K : Exit → PState → Prop) (hK : ∀ σ', At σ' (ordT l a b nT nP nG nQ n0 n1 to ps sa.got sb.got Sa Sb i' (Hb ++ Ha)) → K .normal σ') :
    W Try.prog G [] (nav (Try.f5.body.getD .skip) [1, 1, 1, 1, 1, 1, 1, 0, 1, 0, 0, 1, 0, 0, 1, 1, 1]) ⟨fr 214 (ordL l a b nT nP nG nQ to.length ps.length i'), ordO nT nP nG nQ n0 n1 to ps sa.got sb.got Sa Sb (Hb ++ Ha)⟩ K := by
  have hnm : True := trivial
  refine W_nd fun nd => ?_
  obtain ⟨⟨w1, p1, k1⟩, w2, p2, k2⟩ := ord_look hA hB nd
  obtain ⟨hne, -⟩ := ord_ne nd
  clear nd
  have c1 := waiting_i G w1 p1 sa
  have c2 := waiting_i G w2 p2 sb
  have d1 := forged_i G w1 p1 sa
  have d2 := forged_i G w2 p2 sb
  rw [hI.oa.wlen] at c1
  rw [hI.ob.wlen] at c2
  rw [hI.oa.forged] at d1
  rw [hI.ob.forged] at d2
  have l1 := hI.oa.len
  have l2 := hI.ob.len
  have l3 := hI.oa.pg
  have l4 := hI.ob.pg
  have l5 := hI.oa.acked
  have l6 := hI.ob.acked
  generalize hwa : Sa.length - sa.acked = wa at *
  generalize hwb : Sb.length - sb.acked = wb at *
  simp only [Try.f5, nav, Option.getD_some]
  repeat' (first
    | (with_reducible apply W_seq_k; intro nx hnx)
    | (with_reducible first | apply W_block | apply W_scope)
    | (with_reducible refine W_prune 44601495713973229422734928169532163404857287 ?_; simp only [prb, Nat.reducePow, Nat.reduceDiv, Nat.reduceMod, Nat.reduceBEq]; first | (with_reducible apply W_region_l) | with_reducible refine W_region_draw (id := 17) 2 (.op 0 true (.op 1 true (.op 2 true (.op 3 true (.op 4 true (.op 5 true (.op 6 true (.op 7 true (.op 8 false (.op 9 true (.op 10 true (.op 11 true (.op 12 true (.op 13 true (.done))))))))))))))) (by kernel_rfl) ?_ | with_reducible refine W_region_draw (id := 23) 6 (.op 0 true (.op 1 true (.op 2 true (.op 3 true (.op 4 true (.op 5 true (.op 6 true (.op 7 true (.op 8 true (.op 9 true (.op 10 true (.op 11 true (.op 12 true (.op 13 true (.op 14 true (.op 15 true (.op 16 true (.op 17 true (.op 18 true (.op 19 true (.op 20 true (.op 21 true (.op 22 true (.op 23 true (.op 24 true (.op 25 true (.op 26 true (.op 27 false (.op 28 true (.op 29 true (.done))))))))))))))))))))))))))))))) (by kernel_rfl) ?_ | with_reducible refine W_region_draw (id := 43) 7 (.op 0 true (.op 1 true (.op 2 true (.op 3 true (.op 5 true (.op 6 true (.op 7 true (.op 8 true (.op 9 true (.op 4 true (.op 10 true (.op 11 true (.op 12 true (.op 13 true (.op 14 true (.op 15 true (.op 17 true (.op 18 true (.op 19 true (.op 20 true (.op 21 true (.op 22 true (.op 23 true (.op 24 true (.op 25 true (.op 26 true (.op 27 true (.op 16 true (.op 28 true (.op 29 true (.op 30 true (.op 31 true (.op 32 true (.op 33 true (.op 34 true (.op 35 false (.op 36 true (.op 37 true (.done))))))))))))))))))))))))))))))))))))))) (by kernel_rfl) ?_)
    | ((first | (with_reducible apply WL_op; intro nx hnx) | with_reducible refine Ev_out ?_ | (with_reducible apply popsD_op; intro nx hnx) | (with_reducible refine popsD_alt ?_ ?_; intro nx hnx) | (with_reducible refine pfresh_k hnm fun nm hnm => ?_; (try simp only [fmb] at hnm)) | (with_reducible refine pborn_mu hnm fun nm hnm => ?_; (try simp only [fmb] at hnm)) | (with_reducible refine pmaybe_k ?_; intro bn hbn)); try (simp (maxSteps := 2000000) (disch := omega) only [evb, evd, pbuiltin, constPV, pnck, seqK, blockK, scopeK, pbin, pun, ppick, plen, piaddr, pindex, pfield, pslice, pbound, pconv, pelems, pextract, pmm, PV.mem?, PV.one, PV.cells, pageq, peqs, peq1, pmakes, pstore, pbytes, pmark, psrc, pkey, pnile, pcap, pgrow, List.set, Value.cells, ↓popG_eq, ↓pop.eq_1, ↓List.getElem?_map, ↓List.getElem?_cons_zero, ↓List.getElem?_cons_succ, Value.oneCell', Nat.reduceAdd, Nat.reduceMul, Nat.reduceSub, Nat.reduceLeDiff, Nat.reduceEqDiff, ↓reduceIte, ne_eq, reduceCtorEq, forall_const, exists_and_left, exists_eq_left', eq_self, Nat.reduceLT, Int.reduceLT, Int.reduceLE, Int.reduceToNat, Int.reduceAdd, Int.reduceSub, Int.reduceNeg, hnm, Try.tf0, Try.tf1, Try.tf2, Try.tf3, Try.tf4, Try.tf5, Try.tf22, Try.tf23, Try.tf24, Try.tf28, Try.tf33, Try.tf34, Try.tf35, Try.tf44, Try.tf58, Try.tf65, Try.teq79, Try.call9, Try.call10, Try.call11, Try.call13, Try.call19, Try.call21, Try.call22, Try.call23]); repeat (refine And.intro (by omega) ?_))
    | ((with_reducible first | apply WL_nil | apply W_label | apply W_skip | apply W_exit | apply W_ret | apply popsD_done); try simp only [seqK, blockK, scopeK, ↓reduceIte, Nat.reduceEqDiff])
    | with_reducible exact popsD_stop
    | (with_reducible apply pguard_intro <;> (intro hc; (try simp only [hcb, reduceCtorEq, forall_const, ne_eq] at hc); first | (exfalso; omega) | (exfalso; exact hc trivial) | refine Ev_in ?_))
    | (with_reducible apply W_cond_k; intro _ _ ea eb; (simp only [condK, cob, opnd, constPV, Nat.reduceEqDiff, Nat.reduceLT, ↓reduceIte, hcb, reduceCtorEq, forall_const, ne_eq]); subst ea eb; first | (refine ⟨fun hc => ?_, fun hc => ?_⟩ <;> first | (exfalso; omega) | (exfalso; exact hc trivial) | skip) | skip)
    | (with_reducible apply hnx; clear hnx nx)
    | (with_reducible refine And.intro (by omega) ?_)
    | (with_reducible refine And.intro ?_ ?_)
    | (clear hnx nx; with_reducible apply hnx; clear hnx nx)
    | (clear hnx nx; clear hnx nx; with_reducible apply hnx; clear hnx nx)
    | (clear hnx nx; clear hnx nx; clear hnx nx; with_reducible apply hnx; clear hnx nx))
  refine W_loop_at (fun z τ => ∃ j : Nat, j ≤ 2 ∧ z = 2 - j ∧ τ = ⟨fr 214 ((23, pn j) :: ordL l a b nT nP nG nQ to.length ps.length i'), ordO nT nP nG nQ n0 n1 to ps sa.got sb.got Sa Sb (Hb ++ Ha)⟩) 2
    ⟨fr 214 ((23, pn 0) :: ordL l a b nT nP nG nQ to.length ps.length i'), ordO nT nP nG nQ n0 n1 to ps sa.got sb.got Sa Sb (Hb ++ Ha)⟩ (by
    refine At_fr (by simp only [wkb, Nat.reduceEqDiff, Nat.reduceLT, ↓reduceIte, pn]) ?_
    exact Hs.refl _) ⟨0, by omega, by omega, rfl⟩ ?_
  rintro z τ ⟨j, hj, rfl, rfl⟩ lp hlp
  have hj3 : j = 0 ∨ j = 1 ∨ j = 2 := by omega
  rcases hj3 with rfl | rfl | rfl
  · repeat' (first
    | (with_reducible apply W_seq_k; intro nx hnx)
    | (with_reducible first | apply W_block | apply W_scope)
    | (with_reducible refine W_prune 44601495713973229422734928169532163404857287 ?_; simp only [prb, Nat.reducePow, Nat.reduceDiv, Nat.reduceMod, Nat.reduceBEq]; first | (with_reducible apply W_region_l) | with_reducible refine W_region_draw (id := 17) 2 (.op 0 true (.op 1 true (.op 2 true (.op 3 true (.op 4 true (.op 5 true (.op 6 true (.op 7 true (.op 8 false (.op 9 true (.op 10 true (.op 11 true (.op 12 true (.op 13 true (.done))))))))))))))) (by kernel_rfl) ?_ | with_reducible refine W_region_draw (id := 23) 6 (.op 0 true (.op 1 true (.op 2 true (.op 3 true (.op 4 true (.op 5 true (.op 6 true (.op 7 true (.op 8 true (.op 9 true (.op 10 true (.op 11 true (.op 12 true (.op 13 true (.op 14 true (.op 15 true (.op 16 true (.op 17 true (.op 18 true (.op 19 true (.op 20 true (.op 21 true (.op 22 true (.op 23 true (.op 24 true (.op 25 true (.op 26 true (.op 27 false (.op 28 true (.op 29 true (.done))))))))))))))))))))))))))))))) (by kernel_rfl) ?_ | with_reducible refine W_region_draw (id := 43) 7 (.op 0 true (.op 1 true (.op 2 true (.op 3 true (.op 5 true (.op 6 true (.op 7 true (.op 8 true (.op 9 true (.op 4 true (.op 10 true (.op 11 true (.op 12 true (.op 13 true (.op 14 true (.op 15 true (.op 17 true (.op 18 true (.op 19 true (.op 20 true (.op 21 true (.op 22 true (.op 23 true (.op 24 true (.op 25 true (.op 26 true (.op 27 true (.op 16 true (.op 28 true (.op 29 true (.op 30 true (.op 31 true (.op 32 true (.op 33 true (.op 34 true (.op 35 false (.op 36 true (.op 37 true (.done))))))))))))))))))))))))))))))))))))))) (by kernel_rfl) ?_)
    | ((first | (with_reducible apply WL_op; intro nx hnx) | with_reducible refine Ev_out ?_ | (with_reducible apply popsD_op; intro nx hnx) | (with_reducible refine popsD_alt ?_ ?_; intro nx hnx) | (with_reducible refine pfresh_k hnm fun nm hnm => ?_; (try simp only [fmb] at hnm)) | (with_reducible refine pborn_mu hnm fun nm hnm => ?_; (try simp only [fmb] at hnm)) | (with_reducible refine pmaybe_k ?_; intro bn hbn)); try (simp (maxSteps := 2000000) (disch := omega) only [evb, evd, pbuiltin, constPV, pnck, seqK, blockK, scopeK, pbin, pun, ppick, plen, piaddr, pindex, pfield, pslice, pbound, pconv, pelems, pextract, pmm, PV.mem?, PV.one, PV.cells, pageq, peqs, peq1, pmakes, pstore, pbytes, pmark, psrc, pkey, pnile, pcap, pgrow, List.set, Value.cells, ↓popG_eq, ↓pop.eq_1, ↓List.getElem?_map, ↓List.getElem?_cons_zero, ↓List.getElem?_cons_succ, Value.oneCell', Nat.reduceAdd, Nat.reduceMul, Nat.reduceSub, Nat.reduceLeDiff, Nat.reduceEqDiff, ↓reduceIte, ne_eq, reduceCtorEq, forall_const, exists_and_left, exists_eq_left', eq_self, Nat.reduceLT, Int.reduceLT, Int.reduceLE, Int.reduceToNat, Int.reduceAdd, Int.reduceSub, Int.reduceNeg, hnm, Try.tf0, Try.tf1, Try.tf2, Try.tf3, Try.tf4, Try.tf5, Try.tf22, Try.tf23, Try.tf24, Try.tf28, Try.tf33, Try.tf34, Try.tf35, Try.tf44, Try.tf58, Try.tf65, Try.teq79, Try.call9, Try.call10, Try.call11, Try.call13, Try.call19, Try.call21, Try.call22, Try.call23, hne]); repeat (refine And.intro (by omega) ?_))
    | ((with_reducible first | apply WL_nil | apply W_label | apply W_skip | apply W_exit | apply W_ret | apply popsD_done); try simp only [seqK, blockK, scopeK, ↓reduceIte, Nat.reduceEqDiff])
    | with_reducible exact popsD_stop
    | (with_reducible apply pguard_intro <;> (intro hc; (try simp only [hcb, reduceCtorEq, forall_const, ne_eq] at hc); first | (exfalso; omega) | (exfalso; exact hc trivial) | refine Ev_in ?_))
    | (with_reducible apply W_cond_k; intro _ _ ea eb; (simp only [condK, cob, opnd, constPV, Nat.reduceEqDiff, Nat.reduceLT, ↓reduceIte, hcb, reduceCtorEq, forall_const, ne_eq]); subst ea eb; first | (refine ⟨fun hc => ?_, fun hc => ?_⟩ <;> first | (exfalso; omega) | (exfalso; exact hc trivial) | skip) | skip)
    | (with_reducible apply hnx; clear hnx nx)
    | (with_reducible refine And.intro (by omega) ?_)
    | (with_reducible refine And.intro ?_ ?_)
    | ((refine pcall_look k1 c1 ?_; refine Ev_in ?_))
    | ((refine pcall_look k1 d1 ?_; refine Ev_in ?_))
    | (clear hnx nx; with_reducible apply hnx; clear hnx nx)
    | (clear hnx nx; clear hnx nx; with_reducible apply hnx; clear hnx nx)
    | (clear hnx nx; clear hnx nx; clear hnx nx; with_reducible apply hnx; clear hnx nx))
    all_goals first
      | exact absurd trivial hc
      | (exfalso
         omega)
      | skip
    all_goals
      refine hlp _ 1 ⟨fr 214 ((23, pn 1) :: ordL l a b nT nP nG nQ to.length ps.length i'), ordO nT nP nG nQ n0 n1 to ps sa.got sb.got Sa Sb (Hb ++ Ha)⟩ (by omega) ?_ ⟨1, by omega, by omega, rfl⟩
      refine At_fr (by simp only [wkb, Nat.reduceEqDiff, Nat.reduceLT, ↓reduceIte, pn]) ?_
      exact Hs.refl _
  · repeat' (first
    | (with_reducible apply W_seq_k; intro nx hnx)
    | (with_reducible first | apply W_block | apply W_scope)
    | (with_reducible refine W_prune 44601495713973229422734928169532163404857287 ?_; simp only [prb, Nat.reducePow, Nat.reduceDiv, Nat.reduceMod, Nat.reduceBEq]; first | (with_reducible apply W_region_l) | with_reducible refine W_region_draw (id := 17) 2 (.op 0 true (.op 1 true (.op 2 true (.op 3 true (.op 4 true (.op 5 true (.op 6 true (.op 7 true (.op 8 false (.op 9 true (.op 10 true (.op 11 true (.op 12 true (.op 13 true (.done))))))))))))))) (by kernel_rfl) ?_ | with_reducible refine W_region_draw (id := 23) 6 (.op 0 true (.op 1 true (.op 2 true (.op 3 true (.op 4 true (.op 5 true (.op 6 true (.op 7 true (.op 8 true (.op 9 true (.op 10 true (.op 11 true (.op 12 true (.op 13 true (.op 14 true (.op 15 true (.op 16 true (.op 17 true (.op 18 true (.op 19 true (.op 20 true (.op 21 true (.op 22 true (.op 23 true (.op 24 true (.op 25 true (.op 26 true (.op 27 false (.op 28 true (.op 29 true (.done))))))))))))))))))))))))))))))) (by kernel_rfl) ?_ | with_reducible refine W_region_draw (id := 43) 7 (.op 0 true (.op 1 true (.op 2 true (.op 3 true (.op 5 true (.op 6 true (.op 7 true (.op 8 true (.op 9 true (.op 4 true (.op 10 true (.op 11 true (.op 12 true (.op 13 true (.op 14 true (.op 15 true (.op 17 true (.op 18 true (.op 19 true (.op 20 true (.op 21 true (.op 22 true (.op 23 true (.op 24 true (.op 25 true (.op 26 true (.op 27 true (.op 16 true (.op 28 true (.op 29 true (.op 30 true (.op 31 true (.op 32 true (.op 33 true (.op 34 true (.op 35 false (.op 36 true (.op 37 true (.done))))))))))))))))))))))))))))))))))))))) (by kernel_rfl) ?_)
    | ((first | (with_reducible apply WL_op; intro nx hnx) | with_reducible refine Ev_out ?_ | (with_reducible apply popsD_op; intro nx hnx) | (with_reducible refine popsD_alt ?_ ?_; intro nx hnx) | (with_reducible refine pfresh_k hnm fun nm hnm => ?_; (try simp only [fmb] at hnm)) | (with_reducible refine pborn_mu hnm fun nm hnm => ?_; (try simp only [fmb] at hnm)) | (with_reducible refine pmaybe_k ?_; intro bn hbn)); try (simp (maxSteps := 2000000) (disch := omega) only [evb, evd, pbuiltin, constPV, pnck, seqK, blockK, scopeK, pbin, pun, ppick, plen, piaddr, pindex, pfield, pslice, pbound, pconv, pelems, pextract, pmm, PV.mem?, PV.one, PV.cells, pageq, peqs, peq1, pmakes, pstore, pbytes, pmark, psrc, pkey, pnile, pcap, pgrow, List.set, Value.cells, ↓popG_eq, ↓pop.eq_1, ↓List.getElem?_map, ↓List.getElem?_cons_zero, ↓List.getElem?_cons_succ, Value.oneCell', Nat.reduceAdd, Nat.reduceMul, Nat.reduceSub, Nat.reduceLeDiff, Nat.reduceEqDiff, ↓reduceIte, ne_eq, reduceCtorEq, forall_const, exists_and_left, exists_eq_left', eq_self, Nat.reduceLT, Int.reduceLT, Int.reduceLE, Int.reduceToNat, Int.reduceAdd, Int.reduceSub, Int.reduceNeg, hnm, Try.tf0, Try.tf1, Try.tf2, Try.tf3, Try.tf4, Try.tf5, Try.tf22, Try.tf23, Try.tf24, Try.tf28, Try.tf33, Try.tf34, Try.tf35, Try.tf44, Try.tf58, Try.tf65, Try.teq79, Try.call9, Try.call10, Try.call11, Try.call13, Try.call19, Try.call21, Try.call22, Try.call23, hne]); repeat (refine And.intro (by omega) ?_))
    | ((with_reducible first | apply WL_nil | apply W_label | apply W_skip | apply W_exit | apply W_ret | apply popsD_done); try simp only [seqK, blockK, scopeK, ↓reduceIte, Nat.reduceEqDiff])
    | with_reducible exact popsD_stop
    | (with_reducible apply pguard_intro <;> (intro hc; (try simp only [hcb, reduceCtorEq, forall_const, ne_eq] at hc); first | (exfalso; omega) | (exfalso; exact hc trivial) | refine Ev_in ?_))
    | (with_reducible apply W_cond_k; intro _ _ ea eb; (simp only [condK, cob, opnd, constPV, Nat.reduceEqDiff, Nat.reduceLT, ↓reduceIte, hcb, reduceCtorEq, forall_const, ne_eq]); subst ea eb; first | (refine ⟨fun hc => ?_, fun hc => ?_⟩ <;> first | (exfalso; omega) | (exfalso; exact hc trivial) | skip) | skip)
    | (with_reducible apply hnx; clear hnx nx)
    | (with_reducible refine And.intro (by omega) ?_)
    | (with_reducible refine And.intro ?_ ?_)
    | ((refine pcall_look k2 c2 ?_; refine Ev_in ?_))
    | ((refine pcall_look k2 d2 ?_; refine Ev_in ?_))
    | (clear hnx nx; with_reducible apply hnx; clear hnx nx)
    | (clear hnx nx; clear hnx nx; with_reducible apply hnx; clear hnx nx)
    | (clear hnx nx; clear hnx nx; clear hnx nx; with_reducible apply hnx; clear hnx nx))
    all_goals first
      | exact absurd trivial hc
      | (exfalso
         omega)
      | skip
    all_goals
      refine hlp _ 0 ⟨fr 214 ((23, pn 2) :: ordL l a b nT nP nG nQ to.length ps.length i'), ordO nT nP nG nQ n0 n1 to ps sa.got sb.got Sa Sb (Hb ++ Ha)⟩ (by omega) ?_ ⟨2, by omega, by omega, rfl⟩
      refine At_fr (by simp only [wkb, Nat.reduceEqDiff, Nat.reduceLT, ↓reduceIte, pn]) ?_
      exact Hs.refl _
  · repeat' (first
    | (with_reducible apply W_seq_k; intro nx hnx)
    | (with_reducible first | apply W_block | apply W_scope)
    | (with_reducible refine W_prune 44601495713973229422734928169532163404857287 ?_; simp only [prb, Nat.reducePow, Nat.reduceDiv, Nat.reduceMod, Nat.reduceBEq]; first | (with_reducible apply W_region_l) | with_reducible refine W_region_draw (id := 17) 2 (.op 0 true (.op 1 true (.op 2 true (.op 3 true (.op 4 true (.op 5 true (.op 6 true (.op 7 true (.op 8 false (.op 9 true (.op 10 true (.op 11 true (.op 12 true (.op 13 true (.done))))))))))))))) (by kernel_rfl) ?_ | with_reducible refine W_region_draw (id := 23) 6 (.op 0 true (.op 1 true (.op 2 true (.op 3 true (.op 4 true (.op 5 true (.op 6 true (.op 7 true (.op 8 true (.op 9 true (.op 10 true (.op 11 true (.op 12 true (.op 13 true (.op 14 true (.op 15 true (.op 16 true (.op 17 true (.op 18 true (.op 19 true (.op 20 true (.op 21 true (.op 22 true (.op 23 true (.op 24 true (.op 25 true (.op 26 true (.op 27 false (.op 28 true (.op 29 true (.done))))))))))))))))))))))))))))))) (by kernel_rfl) ?_ | with_reducible refine W_region_draw (id := 43) 7 (.op 0 true (.op 1 true (.op 2 true (.op 3 true (.op 5 true (.op 6 true (.op 7 true (.op 8 true (.op 9 true (.op 4 true (.op 10 true (.op 11 true (.op 12 true (.op 13 true (.op 14 true (.op 15 true (.op 17 true (.op 18 true (.op 19 true (.op 20 true (.op 21 true (.op 22 true (.op 23 true (.op 24 true (.op 25 true (.op 26 true (.op 27 true (.op 16 true (.op 28 true (.op 29 true (.op 30 true (.op 31 true (.op 32 true (.op 33 true (.op 34 true (.op 35 false (.op 36 true (.op 37 true (.done))))))))))))))))))))))))))))))))))))))) (by kernel_rfl) ?_)
    | ((first | (with_reducible apply WL_op; intro nx hnx) | with_reducible refine Ev_out ?_ | (with_reducible apply popsD_op; intro nx hnx) | (with_reducible refine popsD_alt ?_ ?_; intro nx hnx) | (with_reducible refine pfresh_k hnm fun nm hnm => ?_; (try simp only [fmb] at hnm)) | (with_reducible refine pborn_mu hnm fun nm hnm => ?_; (try simp only [fmb] at hnm)) | (with_reducible refine pmaybe_k ?_; intro bn hbn)); try (simp (maxSteps := 2000000) (disch := omega) only [evb, evd, pbuiltin, constPV, pnck, seqK, blockK, scopeK, pbin, pun, ppick, plen, piaddr, pindex, pfield, pslice, pbound, pconv, pelems, pextract, pmm, PV.mem?, PV.one, PV.cells, pageq, peqs, peq1, pmakes, pstore, pbytes, pmark, psrc, pkey, pnile, pcap, pgrow, List.set, Value.cells, ↓popG_eq, ↓pop.eq_1, ↓List.getElem?_map, ↓List.getElem?_cons_zero, ↓List.getElem?_cons_succ, Value.oneCell', Nat.reduceAdd, Nat.reduceMul, Nat.reduceSub, Nat.reduceLeDiff, Nat.reduceEqDiff, ↓reduceIte, ne_eq, reduceCtorEq, forall_const, exists_and_left, exists_eq_left', eq_self, Nat.reduceLT, Int.reduceLT, Int.reduceLE, Int.reduceToNat, Int.reduceAdd, Int.reduceSub, Int.reduceNeg, hnm, Try.tf0, Try.tf1, Try.tf2, Try.tf3, Try.tf4, Try.tf5, Try.tf22, Try.tf23, Try.tf24, Try.tf28, Try.tf33, Try.tf34, Try.tf35, Try.tf44, Try.tf58, Try.tf65, Try.teq79, Try.call9, Try.call10, Try.call11, Try.call13, Try.call19, Try.call21, Try.call22, Try.call23]); repeat (refine And.intro (by omega) ?_))
    | ((with_reducible first | apply WL_nil | apply W_label | apply W_skip | apply W_exit | apply W_ret | apply popsD_done); try simp only [seqK, blockK, scopeK, ↓reduceIte, Nat.reduceEqDiff])
    | with_reducible exact popsD_stop
    | (with_reducible apply pguard_intro <;> (intro hc; (try simp only [hcb, reduceCtorEq, forall_const, ne_eq] at hc); first | (exfalso; omega) | (exfalso; exact hc trivial) | refine Ev_in ?_))
    | (with_reducible apply W_cond_k; intro _ _ ea eb; (simp only [condK, cob, opnd, constPV, Nat.reduceEqDiff, Nat.reduceLT, ↓reduceIte, hcb, reduceCtorEq, forall_const, ne_eq]); subst ea eb; first | (refine ⟨fun hc => ?_, fun hc => ?_⟩ <;> first | (exfalso; omega) | (exfalso; exact hc trivial) | skip) | skip)
    | (with_reducible apply hnx; clear hnx nx)
    | (with_reducible refine And.intro (by omega) ?_)
    | (with_reducible refine And.intro ?_ ?_)
    | (clear hnx nx; with_reducible apply hnx; clear hnx nx)
    | (clear hnx nx; clear hnx nx; with_reducible apply hnx; clear hnx nx)
    | (clear hnx nx; clear hnx nx; clear hnx nx; with_reducible apply hnx; clear hnx nx))
    all_goals first
      | exact absurd trivial hc
      | (exfalso
         omega)
      | skip
    refine hK _ ?_
    refine At_fr (by simp only [wkb, Nat.reduceEqDiff, Nat.reduceLT, ↓reduceIte]) ?_
    exact Hs.refl _
set_option maxRecDepth 100000 in
set_option maxHeartbeats 8000000 in
theorem ord_step (G : Globs) (key : UInt64) (l : List Int) (a b nT nP nG nQ n0 n1 : Int) (to : List Nat) (ps Sa Sb : List (List UInt8)) (sa sb : LE) (i : Nat) (hi : i < 80) (hil : i < l.length) (hx : inR l[i]) (n : Nat) (hn : n < 1073741824) (k : Nat) (hk : k < 2) (hI : OrdS i key Sa Sb sa sb ps to) (Ha Hb : Heap) (hA : IsEnd a sa Ha) (hB : IsEnd b sb Hb)
    (K : Exit → PState → Prop) (hK : ∀ σ' nT nP n0 n1 to ps Sa Sb sa sb Ha Hb, OrdS (i + 1) key Sa Sb sa sb ps to → IsEnd a sa Ha → IsEnd b sb Hb → At σ' (ordT l a b nT nP nG nQ n0 n1 to ps sa.got sb.got Sa Sb i (Hb ++ Ha)) → K .normal σ' ∧ K (.exit 1) σ') :
    W Try.prog G [] (nav (Try.f5.body.getD .skip) [1, 1, 1, 1, 1, 1, 1, 0, 1, 0, 0, 1, 0, 0, 1, 1]) ⟨fr 214 ((14, pn k) :: (13, pn n) :: ordL l a b nT nP nG nQ to.length ps.length i), ordO nT nP nG nQ n0 n1 to ps sa.got sb.got Sa Sb (Hb ++ Ha)⟩ K := by
  have hnm : True := trivial
  have a1 := around_c G l[i] 8 (by omega) (by omega) hx
  have ha := arN_lt l[i] 8 (by omega)
  have a1 : PCalls Try.prog G 10 [pint .i64 l[i], .val (.int .i64 8)] [] _ := a1
  generalize arN l[i] 8 = ch at *
  have chk := fun (nT nP n0 n1 : Int) (to : List Nat) (ps Sa Sb : List (List UInt8)) (sa sb : LE) (Ha Hb : Heap) (hI : OrdS (i + 1) key Sa Sb sa sb ps to) (hA : IsEnd a sa Ha) (hB : IsEnd b sb Hb) => ord_check G key l a b nT nP nG nQ n0 n1 to ps Sa Sb sa sb (i + 1) i (by omega) hI Ha Hb hA hB K (fun σ' hat => (hK σ' nT nP n0 n1 to ps Sa Sb sa sb Ha Hb hI hA hB hat).1)
  have sd := ord_send G key l a b nT nP nG nQ n0 n1 to ps Sa Sb sa sb i hi k hk hI Ha Hb hA hB
  have ou := ord_out G key l a b nT nP nG nQ n0 n1 to ps Sa Sb sa sb i hi k hk hI Ha Hb hA hB
  have ii := ord_in G key l a b nT nP nG nQ n0 n1 to ps Sa Sb sa sb i hi n hn hI Ha Hb hA hB
  have hK1 := fun (σ' : PState) (hat : At σ' (ordT l a b nT nP nG nQ n0 n1 to ps sa.got sb.got Sa Sb i (Hb ++ Ha))) => (hK σ' nT nP n0 n1 to ps Sa Sb sa sb Ha Hb (hI.up (Nat.le_succ i)) hA hB hat).2
  simp only [Try.f5, nav, Option.getD_some] at chk sd ou ii ⊢
  with_reducible apply W_seq_k
  intro nx hnx
  have fin3 : ∀ σ' nT nP n0 n1 to ps Sa Sb sa sb Ha Hb, OrdS (i + 1) key Sa Sb sa sb ps to → IsEnd a sa Ha → IsEnd b sb Hb → At σ' (ordT l a b nT nP nG nQ n0 n1 to ps sa.got sb.got Sa Sb i (Hb ++ Ha)) → nx σ' := fun σ' nT nP n0 n1 to ps Sa Sb sa sb Ha Hb hI hA hB hat => hnx σ' (W_at hat (chk nT nP n0 n1 to ps Sa Sb sa sb Ha Hb hI hA hB))
  clear chk hnx
  repeat' (first
    | (with_reducible refine W_at ?_ (sd _ ?_))
    | (with_reducible refine W_at ?_ (ou _ ?_))
    | (with_reducible refine W_at ?_ (ii _ ?_ ?_))
    | (with_reducible apply W_seq_k; intro nx hnx)
    | (with_reducible first | apply W_block | apply W_scope)
    | (with_reducible refine W_prune 44601495713973229422734928169532163404857287 ?_; simp only [prb, Nat.reducePow, Nat.reduceDiv, Nat.reduceMod, Nat.reduceBEq]; first | (with_reducible apply W_region_l) | with_reducible refine W_region_draw (id := 17) 2 (.op 0 true (.op 1 true (.op 2 true (.op 3 true (.op 4 true (.op 5 true (.op 6 true (.op 7 true (.op 8 false (.op 9 true (.op 10 true (.op 11 true (.op 12 true (.op 13 true (.done))))))))))))))) (by kernel_rfl) ?_ | with_reducible refine W_region_draw (id := 23) 6 (.op 0 true (.op 1 true (.op 2 true (.op 3 true (.op 4 true (.op 5 true (.op 6 true (.op 7 true (.op 8 true (.op 9 true (.op 10 true (.op 11 true (.op 12 true (.op 13 true (.op 14 true (.op 15 true (.op 16 true (.op 17 true (.op 18 true (.op 19 true (.op 20 true (.op 21 true (.op 22 true (.op 23 true (.op 24 true (.op 25 true (.op 26 true (.op 27 false (.op 28 true (.op 29 true (.done))))))))))))))))))))))))))))))) (by kernel_rfl) ?_ | with_reducible refine W_region_draw (id := 43) 7 (.op 0 true (.op 1 true (.op 2 true (.op 3 true (.op 5 true (.op 6 true (.op 7 true (.op 8 true (.op 9 true (.op 4 true (.op 10 true (.op 11 true (.op 12 true (.op 13 true (.op 14 true (.op 15 true (.op 17 true (.op 18 true (.op 19 true (.op 20 true (.op 21 true (.op 22 true (.op 23 true (.op 24 true (.op 25 true (.op 26 true (.op 27 true (.op 16 true (.op 28 true (.op 29 true (.op 30 true (.op 31 true (.op 32 true (.op 33 true (.op 34 true (.op 35 false (.op 36 true (.op 37 true (.done))))))))))))))))))))))))))))))))))))))) (by kernel_rfl) ?_)
    | ((first | (with_reducible apply WL_op; intro nx hnx) | with_reducible refine Ev_out ?_ | (with_reducible apply popsD_op; intro nx hnx) | (with_reducible refine popsD_alt ?_ ?_; intro nx hnx) | (with_reducible refine pfresh_k hnm fun nm hnm => ?_; (try simp only [fmb] at hnm)) | (with_reducible refine pborn_mu hnm fun nm hnm => ?_; (try simp only [fmb] at hnm)) | (with_reducible refine pmaybe_k ?_; intro bn hbn)); try (simp (maxSteps := 2000000) (disch := omega) only [evb, evd, pbuiltin, constPV, pnck, seqK, blockK, scopeK, pbin, pun, ppick, plen, piaddr, pindex, pfield, pslice, pbound, pconv, pelems, pextract, pmm, PV.mem?, PV.one, PV.cells, pageq, peqs, peq1, pmakes, pstore, pbytes, pmark, psrc, pkey, pnile, pcap, pgrow, List.set, Value.cells, ↓popG_eq, ↓pop.eq_1, ↓List.getElem?_map, ↓List.getElem?_cons_zero, ↓List.getElem?_cons_succ, Value.oneCell', Nat.reduceAdd, Nat.reduceMul, Nat.reduceSub, Nat.reduceLeDiff, Nat.reduceEqDiff, ↓reduceIte, ne_eq, reduceCtorEq, forall_const, exists_and_left, exists_eq_left', eq_self, Nat.reduceLT, Int.reduceLT, Int.reduceLE, Int.reduceToNat, Int.reduceAdd, Int.reduceSub, Int.reduceNeg, hnm, Try.tf0, Try.tf1, Try.tf2, Try.tf3, Try.tf4, Try.tf5, Try.tf22, Try.tf23, Try.tf24, Try.tf28, Try.tf33, Try.tf34, Try.tf35, Try.tf44, Try.tf58, Try.tf65, Try.teq79, Try.call9, Try.call10, Try.call11, Try.call13, Try.call19, Try.call21, Try.call22, Try.call23]); repeat (refine And.intro (by omega) ?_))
    | ((with_reducible first | apply WL_nil | apply W_label | apply W_skip | apply W_exit | apply W_ret | apply popsD_done); try simp only [seqK, blockK, scopeK, ↓reduceIte, Nat.reduceEqDiff])
    | with_reducible exact popsD_stop
    | (with_reducible apply pguard_intro <;> (intro hc; (try simp only [hcb, reduceCtorEq, forall_const, ne_eq] at hc); first | (exfalso; omega) | (exfalso; exact hc trivial) | refine Ev_in ?_))
    | (with_reducible apply W_cond_k; intro _ _ ea eb; (simp only [condK, cob, opnd, constPV, Nat.reduceEqDiff, Nat.reduceLT, ↓reduceIte, hcb, reduceCtorEq, forall_const, ne_eq]); subst ea eb; first | (refine ⟨fun hc => ?_, fun hc => ?_⟩ <;> first | (exfalso; omega) | (exfalso; exact hc trivial) | skip) | skip)
    | (with_reducible apply hnx; clear hnx nx)
    | (with_reducible refine And.intro (by omega) ?_)
    | (with_reducible refine And.intro ?_ ?_)
    | (with_reducible refine pcall_k (a1) ?_; rintro _ _ ⟨rfl, rfl⟩ -; refine Ev_in ?_)
    | (clear hnx nx; with_reducible apply hnx; clear hnx nx)
    | (clear hnx nx; clear hnx nx; with_reducible apply hnx; clear hnx nx)
    | (clear hnx nx; clear hnx nx; clear hnx nx; with_reducible apply hnx; clear hnx nx))
  all_goals first
    | (refine At_fr (by simp only [wkb, Nat.reduceEqDiff, Nat.reduceLT, ↓reduceIte]) ?_
       exact Hs.refl _)
    | (intro σ' n0 n1 Sa Sb sa sb Ha Hb q1 q2 q3 q4
       exact fin3 _ _ _ _ _ _ _ _ _ _ _ _ _ q1 q2 q3 q4)
    | (intro σ' nT nP to ps sa sb Ha Hb q1 q2 q3 q4
       exact fin3 _ _ _ _ _ _ _ _ _ _ _ _ _ q1 q2 q3 q4)
    | (intro σ' sa sb Ha Hb q1 q2 q3 q4
       exact fin3 _ _ _ _ _ _ _ _ _ _ _ _ _ q1 q2 q3 q4)
    | (intro σ' hat
       simp only [blockK, seqK, Nat.reduceEqDiff, ↓reduceIte]
       exact hK1 σ' hat)
end Go.PM

namespace Go.PM
open Go.Proofs
attribute [local irreducible] W PCalls pcall pcallI WL
theorem RunI.up {i j : Nat} {key : UInt64} {ra rb : RE} {sent : List (List UInt8)} {to : List Nat} (h : RunI i key ra rb sent to) (hij : i ≤ j) : RunI j key ra rb sent to :=
  ⟨h.a.up hij, h.b.up hij, by have := h.len; omega, h.tolen, h.pk, h.two⟩
end Go.PM

namespace Go.PM
open Go.Proofs
theorem inR_tdiv {x : Int} (h : inR x) (m : Int) (hm : 1 ≤ m) : inR (x.tdiv m) := by
  obtain ⟨h3, h4⟩ := h
  constructor
  · rcases Int.le_total 0 x with h | h
    · have := Int.tdiv_nonneg h (show (0 : Int) ≤ m by omega)
      omega
    · obtain ⟨w, rfl⟩ : ∃ w : Int, x = -w := ⟨-x, by omega⟩
      rw [Int.neg_tdiv]
      have := Int.tdiv_le_self (b := m) (show 0 ≤ w by omega)
      omega
  · rcases Int.le_total 0 x with h | h
    · have := Int.tdiv_le_self (b := m) h
      omega
    · obtain ⟨w, rfl⟩ : ∃ w : Int, x = -w := ⟨-x, by omega⟩
      rw [Int.neg_tdiv]
      have := Int.tdiv_nonneg (show 0 ≤ w by omega) (show (0 : Int) ≤ m by omega)
      omega
attribute [local irreducible] W PCalls pcall pcallI WL
section
variable {P : Program} {G : Globs} {I : List Int} {code : Code} {K : Exit → PState → Prop} {F : List PV} {B : Heap}
end
end Go.PM
