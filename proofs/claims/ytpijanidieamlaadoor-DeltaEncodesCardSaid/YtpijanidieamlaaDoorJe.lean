/- Joined texts (HFd HFe HFf HFg HFh HFi HFj HFk HKa HWi HWj HNb HGa HGb): the machine, the contracts, the laws. Conditions: none but those that each names. -/
import Derived.Test.YtpijanidieamlaaDoorJd
set_option linter.unusedSimpArgs false
set_option linter.unusedVariables false
namespace Go.PM
open Go.Proofs
attribute [local irreducible] W PCalls pcall pcallI WL
/-- What lies at a place of the block of a stream to which t was added. -/
def qB (t : List UInt8) (i : Nat) : UInt8 := if i < t.length % 64 then t.getD (64 * (t.length / 64) + i) 0 else if 64 ≤ t.length then t.getD (64 * (t.length / 64 - 1) + i) 0 else 0
def qOf (t : List UInt8) : List UInt8 := (List.range 64).map (qB t)
def stS (t : List UInt8) : List UInt32 := blk H0 t (t.length / 64)
/-- The cells of a stream to which t was added. -/
def stC (t : List UInt8) : List PV := (stS t).map pw ++ (qOf t).map pbyte ++ [pint .u64 t.length]
/-- The stream to which t was added. -/
@[reducible] def stP (t : List UInt8) : PV := .agg (stC t)
theorem blk_app (s : List UInt32) (b v : List UInt8) : ∀ k, 64 * k ≤ b.length → blk s (b ++ v) k = blk s b k
  | 0, _ => rfl
  | k + 1, h => by
    have e : ((b ++ v).drop (64 * k)).take 64 = (b.drop (64 * k)).take 64 := by
      rw [List.drop_append_of_le_length (by omega), List.take_append_of_le_length (by rw [List.length_drop]; omega)]
    rw [blk, blk, blk_app s b v k (by omega), e]
theorem stS_len (t : List UInt8) : (stS t).length = 8 := blk_len _ _ H0_len _
theorem qOf_len (t : List UInt8) : (qOf t).length = 64 := by simp [qOf]
theorem qOf_get (t : List UInt8) (i : Nat) (h : i < 64) : (qOf t)[i]? = some (qB t i) := by simp [qOf, h]
theorem getD_left (u v : List UInt8) (i : Nat) (h : i < u.length) : (u ++ v).getD i 0 = u.getD i 0 := by
  rw [List.getD_eq_getElem?_getD, List.getD_eq_getElem?_getD, List.getElem?_append_left h]
theorem getD_right (u v : List UInt8) (i : Nat) (h : u.length ≤ i) : (u ++ v).getD i 0 = v.getD (i - u.length) 0 := by
  rw [List.getD_eq_getElem?_getD, List.getD_eq_getElem?_getD, List.getElem?_append_right h]
theorem qOf_step (u v : List UInt8) (a : Nat) (ha : a = u.length % 64) (h0 : 0 < v.length) (h : a + v.length ≤ 64) : (qOf u).take a ++ v ++ (qOf u).drop (a + v.length) = qOf (u ++ v) := by
  have hl : (u ++ v).length = u.length + v.length := List.length_append
  apply List.ext_getElem?
  intro i
  have ht : ((qOf u).take a).length = a := by rw [List.length_take, qOf_len]; omega
  rcases Nat.lt_or_ge i 64 with hi | hi
  · rw [qOf_get _ _ hi]
    rcases Nat.lt_or_ge i a with h1 | h1
    · rw [List.append_assoc, List.getElem?_append_left (by omega), List.getElem?_take_of_lt h1, qOf_get _ _ hi]
      congr 1
      unfold qB
      rw [if_pos (by omega)]
      rcases Nat.lt_or_ge (a + v.length) 64 with h2 | h2
      · rw [if_pos (by omega), show (u ++ v).length / 64 = u.length / 64 by omega, getD_left _ _ _ (by omega)]
      · rw [if_neg (by omega), if_pos (by omega), show (u ++ v).length / 64 - 1 = u.length / 64 by omega, getD_left _ _ _ (by omega)]
    · rcases Nat.lt_or_ge i (a + v.length) with h2 | h2
      · rw [List.getElem?_append_left (by rw [List.length_append]; omega), List.getElem?_append_right (by omega), ht, List.getElem?_eq_getElem (by omega)]
        congr 1
        have e : ∀ w : Nat, w = u.length / 64 → v[i - a]'(by omega) = (u ++ v).getD (64 * w + i) 0 := by
          intro w hw
          have h3 : 64 * w + i - u.length = i - a := by omega
          rw [getD_right _ _ _ (by omega), h3, List.getD_eq_getElem?_getD, List.getElem?_eq_getElem (by omega)]
          rfl
        unfold qB
        rcases Nat.lt_or_ge (a + v.length) 64 with h3 | h3
        · rw [if_pos (by omega)]
          exact e _ (by omega)
        · rw [if_neg (by omega), if_pos (by omega)]
          exact e _ (by omega)
      · rw [List.getElem?_append_right (by rw [List.length_append]; omega), List.length_append, ht, List.getElem?_drop, show a + v.length + (i - (a + v.length)) = i by omega, qOf_get _ _ hi]
        congr 1
        unfold qB
        by_cases h3 : 64 ≤ u.length
        · rw [if_neg (by omega), if_pos h3, if_neg (by omega), if_pos (by omega), show (u ++ v).length / 64 = u.length / 64 by omega, getD_left _ _ _ (by omega)]
        · rw [if_neg (by omega), if_neg h3, if_neg (by omega), if_neg (by omega)]
  · rw [List.getElem?_eq_none (by simp only [List.length_append, List.length_drop, ht, qOf_len]; omega), List.getElem?_eq_none (by rw [qOf_len]; exact hi)]
theorem stS_keep (u v : List UInt8) (h : u.length % 64 + v.length < 64) : stS (u ++ v) = stS u := by
  unfold stS
  rw [show (u ++ v).length / 64 = u.length / 64 by rw [List.length_append]; omega, blk_app _ _ _ _ (by omega)]
theorem stS_step (u v : List UInt8) (h0 : 0 < v.length) (h : u.length % 64 + v.length = 64) : stS (u ++ v) = comp (stS u) (qOf (u ++ v)) := by
  have hl : (u ++ v).length = u.length + v.length := List.length_append
  unfold stS
  rw [show (u ++ v).length / 64 = u.length / 64 + 1 by omega, blk, blk_app _ _ _ _ (by omega)]
  congr 1
  apply List.ext_getElem?
  intro i
  rcases Nat.lt_or_ge i 64 with hi | hi
  · rw [qOf_get _ _ hi, List.getElem?_take_of_lt hi, List.getElem?_drop, List.getElem?_eq_getElem (by omega)]
    unfold qB
    rw [if_neg (by omega), if_pos (by omega), show (u ++ v).length / 64 - 1 = u.length / 64 by omega, List.getD_eq_getElem?_getD, List.getElem?_eq_getElem (by omega)]
    rfl
  · rw [List.getElem?_eq_none (by rw [List.length_take]; omega), List.getElem?_eq_none (by rw [qOf_len]; exact hi)]
theorem elemsOf_one {cs : List PV} {n : Nat} (h : n ≤ cs.length) : elemsOf 1 cs n = cs.take n := by
  rw [elemsOf, if_pos rfl]
theorem elemsOf_bytes {q : List UInt8} {n : Nat} (hq : q.length = n) (rest : List PV) : elemsOf 1 (q.map pbyte ++ rest) n = q.map pbyte := by
  rw [elemsOf_one (by simp [hq]), List.take_append_of_le_length (by simp [hq]), List.take_of_length_le (by simp [hq])]
/-- Cells of a stream. -/
def st3 (S : List UInt32) (Q : List UInt8) (n : Nat) : List PV := S.map pw ++ Q.map pbyte ++ [pint .u64 n]
theorem stC_st3 (t : List UInt8) : stC t = st3 (stS t) (qOf t) t.length := rfl
section
variable {S S' : List UInt32} {Q : List UInt8} {n n' : Nat} (hS : S.length = 8) (hQ : Q.length = 64)
theorem st3_len (hS : S.length = 8) (hQ : Q.length = 64) : (st3 S Q n).length = 73 := by simp [st3, hS, hQ]
theorem st3_n (hS : S.length = 8) (hQ : Q.length = 64) : (st3 S Q n)[72]? = some (pint .u64 n) := by
  rw [st3, List.getElem?_append_right (by simp [hS, hQ])]
  simp [hS, hQ]
theorem st3_copy (hS : S.length = 8) (hQ : Q.length = 64) (v : List UInt8) (a : Nat) (h : a + v.length ≤ 64) : List.take (8 + a) (st3 S Q n) ++ v.map pbyte ++ List.drop (8 + a + v.length) (st3 S Q n) = st3 S (Q.take a ++ v ++ Q.drop (a + v.length)) n := by
  have e1 : List.take (8 + a) (st3 S Q n) = S.map pw ++ (Q.take a).map pbyte := by
    rw [st3, List.append_assoc, List.take_append, List.length_map, hS, List.take_of_length_le (by rw [List.length_map]; omega), show 8 + a - 8 = a by omega, List.take_append_of_le_length (by rw [List.length_map]; omega), List.map_take]
  have e2 : List.drop (8 + a + v.length) (st3 S Q n) = (Q.drop (a + v.length)).map pbyte ++ [pint .u64 n] := by
    rw [st3, List.append_assoc, List.drop_append, List.length_map, hS, List.drop_of_length_le (by rw [List.length_map]; omega), List.nil_append, show 8 + a + v.length - 8 = a + v.length by omega, List.drop_append_of_le_length (by rw [List.length_map]; omega), List.map_drop]
  rw [e1, e2, st3]
  simp only [List.map_append, List.append_assoc]
theorem st3_setn (hS : S.length = 8) (hQ : Q.length = 64) : List.take 72 (st3 S Q n) ++ [pint .u64 n'] ++ List.drop 73 (st3 S Q n) = st3 S Q n' := by
  rw [List.drop_of_length_le (by rw [st3_len hS hQ]; omega), List.append_nil, st3, List.take_append_of_le_length (by simp [hS, hQ]), List.take_of_length_le (by simp [hS, hQ]), st3]
theorem st3_state (hS : S.length = 8) : List.take 8 (st3 S Q n) = S.map pw := by
  rw [st3, List.append_assoc, List.take_append_of_le_length (by simp [hS]), List.take_of_length_le (by simp [hS])]
theorem st3_sets (hS : S.length = 8) : S'.map pw ++ List.drop 8 (st3 S Q n) = st3 S' Q n := by
  rw [st3, List.append_assoc, List.drop_append_of_le_length (by simp [hS]), List.drop_of_length_le (by simp [hS]), List.nil_append, st3, List.append_assoc]
theorem st3_drop (hS : S.length = 8) : List.drop 8 (st3 S Q n) = Q.map pbyte ++ [pint .u64 n] := by
  rw [st3, List.append_assoc, List.drop_append_of_le_length (by simp [hS]), List.drop_of_length_le (by simp [hS]), List.nil_append]
theorem st3_one : (st3 S Q n).all PV.one = true := by
  rw [st3, List.all_append, List.all_append, all_one_pw, all_one_byte]
  rfl
end
attribute [irreducible] st3
set_option maxRecDepth 100000 in
theorem begin_c (G : Globs) : PCalls Tryd.prog G 35 [] [] (fun res H => res = stP [] ∧ H = []) := by
  (refine PCalls_f Tryd.func35 rfl Tryd.ntmps35 Tryd.results35 (by simp) fun fin hfin => ?_; have hnm : True := trivial; simp only [ev, Nat.reduceAdd, Nat.reduceMul, Nat.reduceSub, Nat.reduceLeDiff, Nat.reduceEqDiff, ↓reduceIte, reduceCtorEq, Nat.reduceLT, Nat.reducePow, Nat.reduceDiv, Nat.reduceMod, Nat.reduceBEq, Int.reduceLT, Int.reduceLE, Int.reduceToNat, Int.reduceAdd, Int.reduceSub, Int.reduceNeg])
  repeat' (first
    | (with_reducible apply W_seq_k; intro nx hnx)
    | (with_reducible first | refine wr 1 ?_)
    | ((with_reducible first | (apply WL_op; intro nx hnx) | refine Ev_out ?_ | refine wc ?_ | (refine pf hnm fun nm hnm => ?_; try simp only [fmb] at hnm) | (refine pm hnm fun nm hnm => ?_; try simp only [fmb] at hnm)); try (simp (maxSteps := 2000000) (disch := omega) only [ev, ↓evp, PV.cells, PV.one, PV.mem?, Value.cells, Nat.reduceAdd, Nat.reduceMul, Nat.reduceSub, Nat.reduceLeDiff, Nat.reduceEqDiff, ↓reduceIte, reduceCtorEq, Nat.reduceLT, Nat.reducePow, Nat.reduceDiv, Nat.reduceMod, Nat.reduceBEq, Int.reduceLT, Int.reduceLE, Int.reduceToNat, Int.reduceAdd, Int.reduceSub, Int.reduceNeg, hnm, Tryd.tf0, Tryd.tf74, Tryd.tf75, Tryd.tf79]))
    | ((with_reducible first | apply W_block | apply W_scope | apply WL_nil | apply W_label | apply W_skip | apply W_exit | apply W_ret) <;> try simp only [kks, Nat.reduceAdd, Nat.reduceMul, Nat.reduceSub, Nat.reduceLeDiff, Nat.reduceEqDiff, ↓reduceIte, reduceCtorEq, Nat.reduceLT, Nat.reducePow, Nat.reduceDiv, Nat.reduceMod, Nat.reduceBEq, Int.reduceLT, Int.reduceLE, Int.reduceToNat, Int.reduceAdd, Int.reduceSub, Int.reduceNeg])
    | (with_reducible apply hnx; clear hnx nx)
    | (with_reducible refine And.intro (by omega) ?_)
    | (with_reducible refine And.intro ?_ ?_)
    | (clear hnx nx; with_reducible apply hnx; clear hnx nx)
    | (clear hnx nx; clear hnx nx; with_reducible apply hnx; clear hnx nx))
  refine hfin _ _ (Fin_cell (res := stP []) Tryd.tf79 (n := nm) (off := 0) (o := ⟨79, false, 0, stC []⟩) (by simp only [fr_getD_cons, Nat.reduceEqDiff, Nat.reduceLT, ↓reduceIte]) (by simp only [look, ↓reduceIte]; rfl) ?_ (Sub_nil _) ⟨rfl, rfl⟩)
  have h1 := st3_len (n := ([] : List UInt8).length) (stS_len []) (qOf_len [])
  have h2 := st3_one (S := stS []) (Q := qOf []) (n := ([] : List UInt8).length)
  rw [stC_st3]
  simp only [pload, h1, h2]
  rw [if_pos trivial]
  refine ⟨by omega, ?_⟩
  rw [List.drop_zero, List.take_of_length_le (by omega)]
  exact congrArg PV.agg (stC_st3 [])
set_option maxRecDepth 100000 in
set_option maxHeartbeats 8000000 in
theorem add_c (G : Globs) (hG : G 0 = .iptr (KS.map pw) 0) (t x : List UInt8) (hb : t.length + x.length ≤ 4294967296) : PCalls Tryd.prog G 36 [stP t, pstr x] [] (fun res H => res = stP (t ++ x) ∧ H = []) := by
  have hst := st3_len (n := t.length) (stS_len t) (qOf_len t)
  have hone := st3_one (S := stS t) (Q := qOf t) (n := t.length)
  unfold stP
  rw [stC_st3 t]
  obtain ⟨zs, hzs⟩ : ∃ zs, zs = List.replicate 8 (pint .u32 0) ++ List.replicate 64 (pint .u8 0) ++ [pint .u64 0] := ⟨_, rfl⟩
  have hzl : zs.length = 73 := by rw [hzs]; rfl
  (refine PCalls_f Tryd.func36 rfl Tryd.ntmps36 Tryd.results36 (by simp) fun fin hfin => ?_; have hnm : True := trivial; simp only [ev, Nat.reduceAdd, Nat.reduceMul, Nat.reduceSub, Nat.reduceLeDiff, Nat.reduceEqDiff, ↓reduceIte, reduceCtorEq, Nat.reduceLT, Nat.reducePow, Nat.reduceDiv, Nat.reduceMod, Nat.reduceBEq, Int.reduceLT, Int.reduceLE, Int.reduceToNat, Int.reduceAdd, Int.reduceSub, Int.reduceNeg])
  repeat' (first
    | (with_reducible apply W_seq_k; intro nx hnx)
    | (with_reducible first | refine wr 119 ?_ | refine wd (id := 7) 119 2 (.op 0 true (.op 1 true (.op 2 true (.op 3 true (.op 4 false (.op 5 true (.op 6 false (.done)))))))) (by kernel_rfl) ?_)
    | ((with_reducible first | (apply WL_op; intro nx hnx) | refine Ev_out ?_ | refine wc ?_ | (apply popsD_op; intro nx hnx) | (refine popsD_alt ?_ ?_; intro nx hnx) | (refine pf hnm fun nm hnm => ?_; try simp only [fmb] at hnm) | (refine pm hnm fun nm hnm => ?_; try simp only [fmb] at hnm)); try (simp (maxSteps := 2000000) (disch := omega) only [ev, ↓evp, PV.cells, PV.one, PV.mem?, Value.cells, Nat.reduceAdd, Nat.reduceMul, Nat.reduceSub, Nat.reduceLeDiff, Nat.reduceEqDiff, ↓reduceIte, reduceCtorEq, Nat.reduceLT, Nat.reducePow, Nat.reduceDiv, Nat.reduceMod, Nat.reduceBEq, Int.reduceLT, Int.reduceLE, Int.reduceToNat, Int.reduceAdd, Int.reduceSub, Int.reduceNeg, hnm, Tryd.tf0, Tryd.tf1, Tryd.tf2, Tryd.tf3, Tryd.tf4, Tryd.tf5, Tryd.tf9, Tryd.tf27, Tryd.tf74, Tryd.tf75, Tryd.tf76, Tryd.tf77, Tryd.tf79, Tryd.call64, hst, hone]))
    | ((with_reducible first | apply W_block | apply W_scope | apply WL_nil | apply W_label | apply W_skip | apply W_exit | apply W_ret | apply popsD_done | exact popsD_stop) <;> try simp only [kks, Nat.reduceAdd, Nat.reduceMul, Nat.reduceSub, Nat.reduceLeDiff, Nat.reduceEqDiff, ↓reduceIte, reduceCtorEq, Nat.reduceLT, Nat.reducePow, Nat.reduceDiv, Nat.reduceMod, Nat.reduceBEq, Int.reduceLT, Int.reduceLE, Int.reduceToNat, Int.reduceAdd, Int.reduceSub, Int.reduceNeg])
    | (with_reducible apply pg <;> (intro hc; (try simp only [hcb, Nat.reduceAdd, Nat.reduceMul, Nat.reduceSub, Nat.reduceLeDiff, Nat.reduceEqDiff, ↓reduceIte, reduceCtorEq, Nat.reduceLT, Nat.reducePow, Nat.reduceDiv, Nat.reduceMod, Nat.reduceBEq, Int.reduceLT, Int.reduceLE, Int.reduceToNat, Int.reduceAdd, Int.reduceSub, Int.reduceNeg, ne_eq, forall_const] at hc); first | (exfalso; omega) | exact absurd trivial hc | skip))
    | (with_reducible apply hnx; clear hnx nx)
    | (with_reducible refine And.intro (by omega) ?_)
    | (with_reducible refine And.intro ?_ ?_)
    | (clear hnx nx; with_reducible apply hnx; clear hnx nx)
    | (clear hnx nx; clear hnx nx; with_reducible apply hnx; clear hnx nx))
  rename_i N2 _
  obtain ⟨N4, hN4'⟩ : ∃ N, N = nm := ⟨_, rfl⟩
  subst hN4'
  have hN : N4 ≠ N2 := by simp only [ne_eq, hnm, not_false_eq_true]
  have hN1 : ¬ N4 = N2 := hN
  have hN3 : ¬ N2 = N4 := fun e => hN e.symm
  clear hnm
  have hnm : True := trivial
  have hnd : [N4, N2].Nodup := by simp [hN1]
  refine W_loop_k (fun z τ => ∃ j : Nat, j ≤ x.length ∧ z = x.length - j ∧ τ = ⟨fr 38 [(4, .ptr N4 0), (2, .ptr N2 0), (1, pstr (x.drop j))], [(N4, ⟨79, false, 0, zs⟩), (N2, ⟨79, false, 0, st3 (stS (t ++ x.take j)) (qOf (t ++ x.take j)) (t ++ x.take j).length⟩)]⟩) x.length
    ⟨fr 38 [(4, .ptr N4 0), (2, .ptr N2 0), (1, pstr x)], [(N4, ⟨79, false, 0, zs⟩), (N2, ⟨79, false, 0, st3 (stS t) (qOf t) t.length⟩)]⟩ (by
    rw [hzs]
    refine Wk_fr (by simp only [wkb, Nat.reduceAdd, Nat.reduceMul, Nat.reduceSub, Nat.reduceLeDiff, Nat.reduceEqDiff, ↓reduceIte, reduceCtorEq, Nat.reduceLT, Nat.reducePow, Nat.reduceDiv, Nat.reduceMod, Nat.reduceBEq, Int.reduceLT, Int.reduceLE, Int.reduceToNat, Int.reduceAdd, Int.reduceSub, Int.reduceNeg]) ?_
    exact ⟨by simp [List.replicate_succ], by simpa [names] using hN1⟩) ⟨0, by omega, by omega, by simp⟩ ?_
  rintro z τ ⟨j, hj, rfl, rfl⟩ lp hlp
  obtain ⟨r, hr⟩ : ∃ r, r = x.drop j := ⟨_, rfl⟩
  have hrl : r.length = x.length - j := by rw [hr, List.length_drop]
  obtain ⟨u, hu⟩ : ∃ u, u = t ++ x.take j := ⟨_, rfl⟩
  have hul : u.length = t.length + j := by rw [hu, List.length_append, List.length_take]; omega
  rw [← hr, ← hu]
  have hS := stS_len u
  have hQ := qOf_len u
  have hl3 := st3_len (n := u.length) hS hQ
  have hg3 := st3_n (n := u.length) hS hQ
  by_cases hre : r = []
  · have hjx : t ++ x = u := by
      rw [hu, List.take_of_length_le (by rw [hre] at hrl; simp only [List.length_nil] at hrl; omega)]
    have htz : List.drop 73 zs = [] := List.drop_of_length_le (by omega)
    have htu : List.take 73 (st3 (stS u) (qOf u) u.length) = st3 (stS u) (qOf u) u.length := List.take_of_length_le (by omega)
    have h1u := st3_one (S := stS u) (Q := qOf u) (n := u.length)
    repeat' (first
    | (with_reducible apply W_seq_k; intro nx hnx)
    | (with_reducible first | refine wr 119 ?_ | refine wd (id := 7) 119 2 (.op 0 true (.op 1 true (.op 2 true (.op 3 true (.op 4 false (.op 5 true (.op 6 false (.done)))))))) (by kernel_rfl) ?_)
    | ((with_reducible first | (apply WL_op; intro nx hnx) | refine Ev_out ?_ | refine wc ?_ | (apply popsD_op; intro nx hnx) | (refine popsD_alt ?_ ?_; intro nx hnx) | (refine pf hnm fun nm hnm => ?_; try simp only [fmb] at hnm) | (refine pm hnm fun nm hnm => ?_; try simp only [fmb] at hnm)); try (simp (maxSteps := 2000000) (disch := omega) only [ev, ↓evp, PV.cells, PV.one, PV.mem?, Value.cells, Nat.reduceAdd, Nat.reduceMul, Nat.reduceSub, Nat.reduceLeDiff, Nat.reduceEqDiff, ↓reduceIte, reduceCtorEq, Nat.reduceLT, Nat.reducePow, Nat.reduceDiv, Nat.reduceMod, Nat.reduceBEq, Int.reduceLT, Int.reduceLE, Int.reduceToNat, Int.reduceAdd, Int.reduceSub, Int.reduceNeg, hnm, Tryd.tf0, Tryd.tf1, Tryd.tf2, Tryd.tf3, Tryd.tf4, Tryd.tf5, Tryd.tf9, Tryd.tf27, Tryd.tf74, Tryd.tf75, Tryd.tf76, Tryd.tf77, Tryd.tf79, Tryd.call64, hN1, hN3, hl3, hg3, hzl, htz, htu, h1u]))
    | ((with_reducible first | apply W_block | apply W_scope | apply WL_nil | apply W_label | apply W_skip | apply W_exit | apply W_ret | apply popsD_done | exact popsD_stop) <;> try simp only [kks, Nat.reduceAdd, Nat.reduceMul, Nat.reduceSub, Nat.reduceLeDiff, Nat.reduceEqDiff, ↓reduceIte, reduceCtorEq, Nat.reduceLT, Nat.reducePow, Nat.reduceDiv, Nat.reduceMod, Nat.reduceBEq, Int.reduceLT, Int.reduceLE, Int.reduceToNat, Int.reduceAdd, Int.reduceSub, Int.reduceNeg])
    | (with_reducible apply pg <;> (intro hc; (try simp only [hcb, Nat.reduceAdd, Nat.reduceMul, Nat.reduceSub, Nat.reduceLeDiff, Nat.reduceEqDiff, ↓reduceIte, reduceCtorEq, Nat.reduceLT, Nat.reducePow, Nat.reduceDiv, Nat.reduceMod, Nat.reduceBEq, Int.reduceLT, Int.reduceLE, Int.reduceToNat, Int.reduceAdd, Int.reduceSub, Int.reduceNeg, ne_eq, forall_const] at hc); first | (exfalso; omega) | exact absurd trivial hc | skip))
    | (with_reducible apply hnx; clear hnx nx)
    | (with_reducible refine And.intro (by omega) ?_)
    | (with_reducible refine And.intro ?_ ?_)
    | (clear hnx nx; with_reducible apply hnx; clear hnx nx)
    | (clear hnx nx; clear hnx nx; with_reducible apply hnx; clear hnx nx))
    all_goals first
      | exact absurd hre ‹¬ r = []›
      | (exfalso
         omega)
      | skip
    refine hfin _ _ (Fin_cell (res := stP u) Tryd.tf79 (n := N4) (off := 0) (o := ⟨79, false, 0, stC u⟩) (by simp only [fr_getD_cons, Nat.reduceEqDiff, Nat.reduceLT, ↓reduceIte]) (by rw [stC_st3]; simp [look, hN1]) ?_ (Sub_nil _) ⟨by rw [hjx], rfl⟩)
    rw [stC_st3]
    simp only [pload, hl3, h1u]
    rw [if_pos trivial]
    refine ⟨by omega, ?_⟩
    rw [List.drop_zero, htu]
    exact congrArg PV.agg (stC_st3 u)
  · have hr0 : 0 < r.length := List.length_pos_iff.2 hre
    have tm : (u.length : Int).tmod 64 = ((u.length % 64 : Nat) : Int) := by rw [Int.tmod_eq_emod_of_nonneg (by omega)]; omega
    obtain ⟨a, ha⟩ : ∃ a, a = u.length % 64 := ⟨_, rfl⟩
    rw [← ha] at tm
    have ha64 : (64 - (a : Int)).toNat = 64 - a := by omega
    obtain ⟨k, hk⟩ : ∃ k, min r.length (64 - a) = k := ⟨_, rfl⟩
    have htr : List.take r.length r = r := List.take_length
    obtain ⟨v, hv⟩ : ∃ v, v = r.take k := ⟨_, rfl⟩
    have hvl : v.length = k := by rw [hv, List.length_take]; omega
    have hvb : List.take k (bytes r) = v.map pbyte := by
      rw [hv, List.map_take]
      rfl
    have hcp := st3_copy (n := u.length) hS hQ v a (by omega)
    rw [qOf_step u v a ha (by omega) (by omega), hvl] at hcp
    have huv : (u ++ v).length = u.length + k := by rw [List.length_append, hvl]
    have htk : u ++ v = t ++ x.take (j + k) := by
      rw [hu, hv, hr, List.append_assoc, ← List.take_add]
    have hkeep : ¬ a + k = 64 → stS (u ++ v) = stS u := fun h => stS_keep u v (by omega)
    have hstep : a + k = 64 → stS (u ++ v) = comp (stS u) (qOf (u ++ v)) := fun h => stS_step u v (by omega) (by omega)
    obtain ⟨y, hy⟩ : ∃ y, y = u ++ v := ⟨_, rfl⟩
    rw [← hy] at hcp huv htk hkeep hstep
    have hQ2 := qOf_len y
    have hg4 := st3_n (n := u.length) hS hQ2
    have hl4 := st3_len (n := u.length) hS hQ2
    have hwk : IntKind.u64.wrap (k : Int) = (k : Int) := wrn64 k (by omega)
    have hwn : IntKind.u64.wrap ((u.length : Int) + (k : Int)) = ((y.length : Nat) : Int) := by
      rw [huv, show (u.length : Int) + (k : Int) = ((u.length + k : Nat) : Int) by omega]
      exact wrn64 _ (by omega)
    have hsn := st3_setn (n := u.length) (n' := y.length) hS hQ2
    have hxd : r.drop k = x.drop (j + k) := by rw [hr, List.drop_drop]
    by_cases hf : a + k = 64
    · have hl5 := st3_len (n := y.length) hS hQ2
      have hcm := compress_c G hG (stS u) hS (qOf y) hQ2
      have hst5 := st3_state (S := stS u) (Q := qOf y) (n := y.length) hS
      repeat' (first
    | (with_reducible apply W_seq_k; intro nx hnx)
    | (with_reducible first | refine wr 119 ?_ | refine wd (id := 7) 119 2 (.op 0 true (.op 1 true (.op 2 true (.op 3 true (.op 4 false (.op 5 true (.op 6 false (.done)))))))) (by kernel_rfl) ?_)
    | ((with_reducible first | (apply WL_op; intro nx hnx) | refine Ev_out ?_ | refine wc ?_ | (apply popsD_op; intro nx hnx) | (refine popsD_alt ?_ ?_; intro nx hnx) | (refine pf hnm fun nm hnm => ?_; try simp only [fmb] at hnm) | (refine pm hnm fun nm hnm => ?_; try simp only [fmb] at hnm)); try (simp (maxSteps := 2000000) (disch := omega) only [ev, ↓evp, PV.cells, PV.one, PV.mem?, Value.cells, Nat.reduceAdd, Nat.reduceMul, Nat.reduceSub, Nat.reduceLeDiff, Nat.reduceEqDiff, ↓reduceIte, reduceCtorEq, Nat.reduceLT, Nat.reducePow, Nat.reduceDiv, Nat.reduceMod, Nat.reduceBEq, Int.reduceLT, Int.reduceLE, Int.reduceToNat, Int.reduceAdd, Int.reduceSub, Int.reduceNeg, hnm, Tryd.tf0, Tryd.tf1, Tryd.tf2, Tryd.tf3, Tryd.tf4, Tryd.tf5, Tryd.tf9, Tryd.tf27, Tryd.tf74, Tryd.tf75, Tryd.tf76, Tryd.tf77, Tryd.tf79, Tryd.call64, hN1, hN3, hl3, hg3, hl4, hg4, hl5, tm, ha64, hk, htr, hvb, hcp, hwk, hwn, hsn, hst5]))
    | ((with_reducible first | apply W_block | apply W_scope | apply WL_nil | apply W_label | apply W_skip | apply W_exit | apply W_ret | apply popsD_done | exact popsD_stop) <;> try simp only [kks, Nat.reduceAdd, Nat.reduceMul, Nat.reduceSub, Nat.reduceLeDiff, Nat.reduceEqDiff, ↓reduceIte, reduceCtorEq, Nat.reduceLT, Nat.reducePow, Nat.reduceDiv, Nat.reduceMod, Nat.reduceBEq, Int.reduceLT, Int.reduceLE, Int.reduceToNat, Int.reduceAdd, Int.reduceSub, Int.reduceNeg])
    | (with_reducible apply pg <;> (intro hc; (try simp only [hcb, Nat.reduceAdd, Nat.reduceMul, Nat.reduceSub, Nat.reduceLeDiff, Nat.reduceEqDiff, ↓reduceIte, reduceCtorEq, Nat.reduceLT, Nat.reducePow, Nat.reduceDiv, Nat.reduceMod, Nat.reduceBEq, Int.reduceLT, Int.reduceLE, Int.reduceToNat, Int.reduceAdd, Int.reduceSub, Int.reduceNeg, ne_eq, forall_const] at hc); first | (exfalso; omega) | exact absurd trivial hc | skip))
    | (with_reducible apply hnx; clear hnx nx)
    | (with_reducible refine And.intro (by omega) ?_)
    | (with_reducible refine And.intro ?_ ?_)
    | (clear hnx nx; with_reducible apply hnx; clear hnx nx)
    | (clear hnx nx; clear hnx nx; with_reducible apply hnx; clear hnx nx))
      all_goals first
        | exact absurd ‹r = []› hre
        | (exfalso
           omega)
        | skip
      have hdr := st3_drop (Q := qOf y) (n := y.length) hS
      have h1y := st3_one (S := stS u) (Q := qOf y) (n := y.length)
      have hel : elemsOf 1 (List.map pbyte (qOf y) ++ [pint .u64 y.length]) 64 = (qOf y).map pbyte := elemsOf_bytes hQ2 _
      have hss := st3_sets (S' := stS y) (Q := qOf y) (n := y.length) hS
      have hs8 : ((stS y).map pw).length = 8 := by rw [List.length_map, stS_len]
      refine pcall_lend N2 ⟨79, false, 0, st3 (stS u) (qOf y) y.length⟩ (by simp [look, hN1]) (R := fun res H => res = .agg ((comp (stS u) (qOf y)).map pw) ∧ H = []) ?_ ?_
      · simp only [List.map_cons, List.map_nil, frz1, ↓reduceIte, hl5, hdr, hel, Nat.one_mul, Nat.mul_one, Nat.reduceAdd, Nat.reduceLeDiff, Nat.zero_lt_one, and_self]
        exact hcm
      · rintro _ _ ⟨rfl, rfl⟩
        refine ⟨rfl, Flat_all (by
          intro c hc
          obtain ⟨w, _, rfl⟩ := List.mem_map.1 hc
          exact ⟨_, rfl⟩), ?_⟩
        rw [← hstep hf]
        refine Ev_in ?_
        repeat' (first
    | (with_reducible apply W_seq_k; intro nx hnx)
    | (with_reducible first | refine wr 119 ?_ | refine wd (id := 7) 119 2 (.op 0 true (.op 1 true (.op 2 true (.op 3 true (.op 4 false (.op 5 true (.op 6 false (.done)))))))) (by kernel_rfl) ?_)
    | ((with_reducible first | (apply WL_op; intro nx hnx) | refine Ev_out ?_ | refine wc ?_ | (apply popsD_op; intro nx hnx) | (refine popsD_alt ?_ ?_; intro nx hnx) | (refine pf hnm fun nm hnm => ?_; try simp only [fmb] at hnm) | (refine pm hnm fun nm hnm => ?_; try simp only [fmb] at hnm)); try (simp (maxSteps := 2000000) (disch := omega) only [ev, ↓evp, PV.cells, PV.one, PV.mem?, Value.cells, Nat.reduceAdd, Nat.reduceMul, Nat.reduceSub, Nat.reduceLeDiff, Nat.reduceEqDiff, ↓reduceIte, reduceCtorEq, Nat.reduceLT, Nat.reducePow, Nat.reduceDiv, Nat.reduceMod, Nat.reduceBEq, Int.reduceLT, Int.reduceLE, Int.reduceToNat, Int.reduceAdd, Int.reduceSub, Int.reduceNeg, hnm, Tryd.tf0, Tryd.tf1, Tryd.tf2, Tryd.tf3, Tryd.tf4, Tryd.tf5, Tryd.tf9, Tryd.tf27, Tryd.tf74, Tryd.tf75, Tryd.tf76, Tryd.tf77, Tryd.tf79, Tryd.call64, hN1, hN3, hl3, hl4, hl5, hss, hs8, all_one_pw]))
    | ((with_reducible first | apply W_block | apply W_scope | apply WL_nil | apply W_label | apply W_skip | apply W_exit | apply W_ret | apply popsD_done | exact popsD_stop) <;> try simp only [kks, Nat.reduceAdd, Nat.reduceMul, Nat.reduceSub, Nat.reduceLeDiff, Nat.reduceEqDiff, ↓reduceIte, reduceCtorEq, Nat.reduceLT, Nat.reducePow, Nat.reduceDiv, Nat.reduceMod, Nat.reduceBEq, Int.reduceLT, Int.reduceLE, Int.reduceToNat, Int.reduceAdd, Int.reduceSub, Int.reduceNeg])
    | (with_reducible apply pg <;> (intro hc; (try simp only [hcb, Nat.reduceAdd, Nat.reduceMul, Nat.reduceSub, Nat.reduceLeDiff, Nat.reduceEqDiff, ↓reduceIte, reduceCtorEq, Nat.reduceLT, Nat.reducePow, Nat.reduceDiv, Nat.reduceMod, Nat.reduceBEq, Int.reduceLT, Int.reduceLE, Int.reduceToNat, Int.reduceAdd, Int.reduceSub, Int.reduceNeg, ne_eq, forall_const] at hc); first | (exfalso; omega) | exact absurd trivial hc | skip))
    | (with_reducible apply hnx; clear hnx nx)
    | (with_reducible refine And.intro (by omega) ?_)
    | (with_reducible refine And.intro ?_ ?_)
    | (clear hnx nx; with_reducible apply hnx; clear hnx nx)
    | (clear hnx nx; clear hnx nx; with_reducible apply hnx; clear hnx nx))
        all_goals first
          | (exfalso
             omega)
          | (refine hlp _ (x.length - (j + k)) _ (by omega) ?_ ⟨j + k, by omega, rfl, rfl⟩
             rw [← htk, ← hxd]
             refine Wk_fr (by simp only [wkb, Nat.reduceAdd, Nat.reduceMul, Nat.reduceSub, Nat.reduceLeDiff, Nat.reduceEqDiff, ↓reduceIte, reduceCtorEq, Nat.reduceLT, Nat.reducePow, Nat.reduceDiv, Nat.reduceMod, Nat.reduceBEq, Int.reduceLT, Int.reduceLE, Int.reduceToNat, Int.reduceAdd, Int.reduceSub, Int.reduceNeg]) ?_
             exact Sub_refl hnd)
          | skip
    · repeat' (first
    | (with_reducible apply W_seq_k; intro nx hnx)
    | (with_reducible first | refine wr 119 ?_ | refine wd (id := 7) 119 2 (.op 0 true (.op 1 true (.op 2 true (.op 3 true (.op 4 false (.op 5 true (.op 6 false (.done)))))))) (by kernel_rfl) ?_)
    | ((with_reducible first | (apply WL_op; intro nx hnx) | refine Ev_out ?_ | refine wc ?_ | (apply popsD_op; intro nx hnx) | (refine popsD_alt ?_ ?_; intro nx hnx) | (refine pf hnm fun nm hnm => ?_; try simp only [fmb] at hnm) | (refine pm hnm fun nm hnm => ?_; try simp only [fmb] at hnm)); try (simp (maxSteps := 2000000) (disch := omega) only [ev, ↓evp, PV.cells, PV.one, PV.mem?, Value.cells, Nat.reduceAdd, Nat.reduceMul, Nat.reduceSub, Nat.reduceLeDiff, Nat.reduceEqDiff, ↓reduceIte, reduceCtorEq, Nat.reduceLT, Nat.reducePow, Nat.reduceDiv, Nat.reduceMod, Nat.reduceBEq, Int.reduceLT, Int.reduceLE, Int.reduceToNat, Int.reduceAdd, Int.reduceSub, Int.reduceNeg, hnm, Tryd.tf0, Tryd.tf1, Tryd.tf2, Tryd.tf3, Tryd.tf4, Tryd.tf5, Tryd.tf9, Tryd.tf27, Tryd.tf74, Tryd.tf75, Tryd.tf76, Tryd.tf77, Tryd.tf79, Tryd.call64, hN1, hN3, hl3, hg3, hl4, hg4, tm, ha64, hk, htr, hvb, hcp, hwk, hwn, hsn]))
    | ((with_reducible first | apply W_block | apply W_scope | apply WL_nil | apply W_label | apply W_skip | apply W_exit | apply W_ret | apply popsD_done | exact popsD_stop) <;> try simp only [kks, Nat.reduceAdd, Nat.reduceMul, Nat.reduceSub, Nat.reduceLeDiff, Nat.reduceEqDiff, ↓reduceIte, reduceCtorEq, Nat.reduceLT, Nat.reducePow, Nat.reduceDiv, Nat.reduceMod, Nat.reduceBEq, Int.reduceLT, Int.reduceLE, Int.reduceToNat, Int.reduceAdd, Int.reduceSub, Int.reduceNeg])
    | (with_reducible apply pg <;> (intro hc; (try simp only [hcb, Nat.reduceAdd, Nat.reduceMul, Nat.reduceSub, Nat.reduceLeDiff, Nat.reduceEqDiff, ↓reduceIte, reduceCtorEq, Nat.reduceLT, Nat.reducePow, Nat.reduceDiv, Nat.reduceMod, Nat.reduceBEq, Int.reduceLT, Int.reduceLE, Int.reduceToNat, Int.reduceAdd, Int.reduceSub, Int.reduceNeg, ne_eq, forall_const] at hc); first | (exfalso; omega) | exact absurd trivial hc | skip))
    | (with_reducible apply hnx; clear hnx nx)
    | (with_reducible refine And.intro (by omega) ?_)
    | (with_reducible refine And.intro ?_ ?_)
    | (clear hnx nx; with_reducible apply hnx; clear hnx nx)
    | (clear hnx nx; clear hnx nx; with_reducible apply hnx; clear hnx nx))
      all_goals first
        | exact absurd ‹r = []› hre
        | (exfalso
           omega)
        | skip
      refine hlp _ (x.length - (j + k)) _ (by omega) ?_ ⟨j + k, by omega, rfl, rfl⟩
      rw [← htk, hkeep hf, ← hxd]
      refine Wk_fr (by simp only [wkb, Nat.reduceAdd, Nat.reduceMul, Nat.reduceSub, Nat.reduceLeDiff, Nat.reduceEqDiff, ↓reduceIte, reduceCtorEq, Nat.reduceLT, Nat.reducePow, Nat.reduceDiv, Nat.reduceMod, Nat.reduceBEq, Int.reduceLT, Int.reduceLE, Int.reduceToNat, Int.reduceAdd, Int.reduceSub, Int.reduceNeg]) ?_
      exact Sub_refl hnd
end Go.PM

namespace Go.PM
open Go.Proofs
attribute [local irreducible] W PCalls pcall pcallI WL
theorem isByte_pb (l : List UInt8) : (l.map pbyte).all isByte = true := by
  rw [List.all_eq_true]
  intro p hp
  obtain ⟨b, _, rfl⟩ := List.mem_map.1 hp
  have := b.toNat_lt
  simp [isByte]
  omega
theorem unb_pb (l : List UInt8) : (l.map pbyte).map unb = l := bytes_unb l
theorem st3_get {S : List UInt32} {Q : List UInt8} {n : Nat} (hS : S.length = 8) (i : Nat) (h : i < 8) : (st3 S Q n)[i]? = some (pw (S.getD i 0)) := by
  have e : (List.take 8 (st3 S Q n))[i]? = some (pw (S.getD i 0)) := by
    rw [st3_state hS, List.getElem?_map, List.getElem?_eq_getElem (by omega), List.getD_eq_getElem?_getD, List.getElem?_eq_getElem (by omega)]
    rfl
  rwa [List.getElem?_take_of_lt h] at e
theorem st3_flat {S : List UInt32} {Q : List UInt8} {n : Nat} (m : Int) (cs : List PV) : ∀ u ∈ st3 S Q n, frz1 m cs u = u ∧ u.one = true := by
  intro u hu
  unfold st3 at hu
  rcases List.mem_append.1 hu with h | h
  · rcases List.mem_append.1 h with h | h
    · obtain ⟨x, _, rfl⟩ := List.mem_map.1 h
      exact ⟨rfl, rfl⟩
    · obtain ⟨x, _, rfl⟩ := List.mem_map.1 h
      exact ⟨rfl, rfl⟩
  · rw [List.mem_singleton.1 h]
    exact ⟨rfl, rfl⟩
theorem oC_flat {S : List UInt32} {i : Nat} (m : Int) (cs : List PV) : ∀ u ∈ oC S i, frz1 m cs u = u ∧ u.one = true := by
  intro u hu
  unfold oC tab at hu
  obtain ⟨x, _, rfl⟩ := List.mem_map.1 hu
  split <;> exact ⟨rfl, rfl⟩
theorem sha_blk (t : List UInt8) : sha t = outB (stS (t ++ padT t.length)) := by
  rw [sha, stS, List.length_append]
set_option maxRecDepth 100000 in
set_option maxHeartbeats 8000000 in
theorem ssum_c (G : Globs) (hG : G 0 = .iptr (KS.map pw) 0) (t : List UInt8) (hb : t.length ≤ 4294960000) : PCalls Tryd.prog G 37 [stP t] [] (fun res H => res = .agg ((sha t).map pbyte) ∧ H = []) := by
  have hz := zN_lt t.length
  have h128 : pint .u8 128 = pbyte 128 := rfl
  have h00 : pint .u8 0 = pbyte 0 := rfl
  have hS := stS_len t
  have hQ := qOf_len t
  have hl3 := st3_len (n := t.length) hS hQ
  have hg3 := st3_n (n := t.length) hS hQ
  have hone := st3_one (S := stS t) (Q := qOf t) (n := t.length)
  have hadd := add_c G hG t (padT t.length) (by rw [padT_len]; omega)
  have hsha := sha_blk t
  unfold stP at hadd ⊢
  rw [stC_st3 t] at hadd ⊢
  have hw1 : IntKind.u64.wrap (8 * (t.length : Int)) = ((8 * t.length : Nat) : Int) := by
    rw [show 8 * (t.length : Int) = ((8 * t.length : Nat) : Int) by omega]
    exact wrn64 _ (by omega)
  obtain ⟨m, hm⟩ : ∃ m, m = 8 * t.length := ⟨_, rfl⟩
  rw [← hm] at hw1
  obtain ⟨S, hSd⟩ : ∃ S, S = stS (t ++ padT t.length) := ⟨_, rfl⟩
  (refine PCalls_f Tryd.func37 rfl Tryd.ntmps37 Tryd.results37 (by simp) fun fin hfin => ?_; have hnm : True := trivial; simp only [ev, Nat.reduceAdd, Nat.reduceMul, Nat.reduceSub, Nat.reduceLeDiff, Nat.reduceEqDiff, ↓reduceIte, reduceCtorEq, Nat.reduceLT, Nat.reducePow, Nat.reduceDiv, Nat.reduceMod, Nat.reduceBEq, Int.reduceLT, Int.reduceLE, Int.reduceToNat, Int.reduceAdd, Int.reduceSub, Int.reduceNeg])
  repeat' (first
    | (with_reducible apply W_seq_k; intro nx hnx)
    | (with_reducible first | refine wr 1099520016639 ?_)
    | ((with_reducible first | (apply WL_op; intro nx hnx) | refine Ev_out ?_ | refine wc ?_ | (refine pf hnm fun nm hnm => ?_; try simp only [fmb] at hnm) | (refine pm hnm fun nm hnm => ?_; try simp only [fmb] at hnm)); try (simp (maxSteps := 2000000) (disch := omega) only [ev, ↓evp, PV.cells, PV.one, PV.mem?, Value.cells, Nat.reduceAdd, Nat.reduceMul, Nat.reduceSub, Nat.reduceLeDiff, Nat.reduceEqDiff, ↓reduceIte, reduceCtorEq, Nat.reduceLT, Nat.reducePow, Nat.reduceDiv, Nat.reduceMod, Nat.reduceBEq, Int.reduceLT, Int.reduceLE, Int.reduceToNat, Int.reduceAdd, Int.reduceSub, Int.reduceNeg, hnm, Tryd.tf0, Tryd.tf1, Tryd.tf2, Tryd.tf3, Tryd.tf4, Tryd.tf5, Tryd.tf9, Tryd.tf27, Tryd.tf74, Tryd.tf75, Tryd.tf77, Tryd.tf79, Tryd.tf82, Tryd.call36, hl3, hone, hg3, hw1]))
    | ((with_reducible first | apply W_block | apply W_scope | apply WL_nil | apply W_label | apply W_skip | apply W_exit | apply W_ret) <;> try simp only [kks, Nat.reduceAdd, Nat.reduceMul, Nat.reduceSub, Nat.reduceLeDiff, Nat.reduceEqDiff, ↓reduceIte, reduceCtorEq, Nat.reduceLT, Nat.reducePow, Nat.reduceDiv, Nat.reduceMod, Nat.reduceBEq, Int.reduceLT, Int.reduceLE, Int.reduceToNat, Int.reduceAdd, Int.reduceSub, Int.reduceNeg])
    | (with_reducible apply pg <;> (intro hc; (try simp only [hcb, Nat.reduceAdd, Nat.reduceMul, Nat.reduceSub, Nat.reduceLeDiff, Nat.reduceEqDiff, ↓reduceIte, reduceCtorEq, Nat.reduceLT, Nat.reducePow, Nat.reduceDiv, Nat.reduceMod, Nat.reduceBEq, Int.reduceLT, Int.reduceLE, Int.reduceToNat, Int.reduceAdd, Int.reduceSub, Int.reduceNeg, ne_eq, forall_const] at hc); first | (exfalso; omega) | exact absurd trivial hc | skip))
    | (with_reducible apply hnx; clear hnx nx)
    | (with_reducible refine And.intro (by omega) ?_)
    | (with_reducible refine And.intro ?_ ?_)
    | (clear hnx nx; with_reducible apply hnx; clear hnx nx)
    | (clear hnx nx; clear hnx nx; with_reducible apply hnx; clear hnx nx))
  rename_i N1 _ N2 _
  refine W_loop_k (fun k τ => ∃ (z : Nat) (N : Int) (o : List UInt8), z ≤ zN t.length ∧ k = zN t.length - z ∧ o = 128 :: List.replicate z 0 ∧ [N, N2, N1].Nodup ∧ τ = ⟨fr 58 [(1, .ptr N1 0), (2, .ptr N2 0), (3, pint .u64 m), (4, .row N 1 o.length)], [(N, ⟨5, true, 1, o.map pbyte⟩), (N2, ⟨82, false, 0, oC S 0⟩), (N1, ⟨79, false, 0, st3 (stS t) (qOf t) t.length⟩)]⟩) (zN t.length)
    ⟨fr 58 [(1, .ptr N1 0), (2, .ptr N2 0), (3, pint .u64 m), (4, .row nm 1 1)], [(nm, ⟨5, true, 1, [128].map pbyte⟩), (N2, ⟨82, false, 0, oC S 0⟩), (N1, ⟨79, false, 0, st3 (stS t) (qOf t) t.length⟩)]⟩ (by
    rw [oC_zero]
    refine Wk_fr (by simp only [wkb, Nat.reduceAdd, Nat.reduceMul, Nat.reduceSub, Nat.reduceLeDiff, Nat.reduceEqDiff, ↓reduceIte, reduceCtorEq, Nat.reduceLT, Nat.reducePow, Nat.reduceDiv, Nat.reduceMod, Nat.reduceBEq, Int.reduceLT, Int.reduceLE, Int.reduceToNat, Int.reduceAdd, Int.reduceSub, Int.reduceNeg]) ?_
    exact ⟨by simp, by simp [names, hnm]⟩) ⟨0, nm, [128], by omega, by omega, rfl, by simp [hnm], rfl⟩ ?_
  rintro k τ ⟨z, N, o, hzz, rfl, ho, hnd, rfl⟩ lp hlp
  clear hnm
  have hnd0 := hnd
  simp only [List.nodup_cons, List.mem_cons, List.not_mem_nil, or_false, not_or, List.nodup_nil, and_true, not_false_eq_true] at hnd
  have hnm : ((¬ N = N2 ∧ ¬ N2 = N) ∧ ¬ N = N1 ∧ ¬ N1 = N) ∧ ¬ N2 = N1 ∧ ¬ N1 = N2 := ⟨⟨⟨hnd.1.1, fun e => hnd.1.1 e.symm⟩, hnd.1.2, fun e => hnd.1.2 e.symm⟩, hnd.2, fun e => hnd.2 e.symm⟩
  have hol : o.length = 1 + z := by
    rw [ho]
    simp
    omega
  have htm : ((t.length : Int) + (o.length : Int)).tmod 64 = (((t.length + o.length) % 64 : Nat) : Int) := by rw [Int.tmod_eq_emod_of_nonneg (by omega)]; omega
  by_cases hst : (t.length + 1 + z) % 64 = 56
  · have hze := zN_stop _ _ hzz hst
    have hs2 : (t.length + o.length) % 64 = 56 := by rw [hol, ← Nat.add_assoc]; exact hst
    repeat' (first
    | (with_reducible apply W_seq_k; intro nx hnx)
    | (with_reducible first | refine wr 1099520016639 ?_)
    | ((with_reducible first | (apply WL_op; intro nx hnx) | refine Ev_out ?_ | refine wc ?_ | (refine pf hnm fun nm hnm => ?_; try simp only [fmb] at hnm) | (refine pm hnm fun nm hnm => ?_; try simp only [fmb] at hnm)); try (simp (maxSteps := 2000000) (disch := omega) only [ev, ↓evp, PV.cells, PV.one, PV.mem?, Value.cells, Nat.reduceAdd, Nat.reduceMul, Nat.reduceSub, Nat.reduceLeDiff, Nat.reduceEqDiff, ↓reduceIte, reduceCtorEq, Nat.reduceLT, Nat.reducePow, Nat.reduceDiv, Nat.reduceMod, Nat.reduceBEq, Int.reduceLT, Int.reduceLE, Int.reduceToNat, Int.reduceAdd, Int.reduceSub, Int.reduceNeg, hnm, Tryd.tf0, Tryd.tf1, Tryd.tf2, Tryd.tf3, Tryd.tf4, Tryd.tf5, Tryd.tf9, Tryd.tf27, Tryd.tf74, Tryd.tf75, Tryd.tf77, Tryd.tf79, Tryd.tf82, Tryd.call36, hl3, hg3, htm, hs2]))
    | ((with_reducible first | apply W_block | apply W_scope | apply WL_nil | apply W_label | apply W_skip | apply W_exit | apply W_ret) <;> try simp only [kks, Nat.reduceAdd, Nat.reduceMul, Nat.reduceSub, Nat.reduceLeDiff, Nat.reduceEqDiff, ↓reduceIte, reduceCtorEq, Nat.reduceLT, Nat.reducePow, Nat.reduceDiv, Nat.reduceMod, Nat.reduceBEq, Int.reduceLT, Int.reduceLE, Int.reduceToNat, Int.reduceAdd, Int.reduceSub, Int.reduceNeg])
    | (with_reducible apply pg <;> (intro hc; (try simp only [hcb, Nat.reduceAdd, Nat.reduceMul, Nat.reduceSub, Nat.reduceLeDiff, Nat.reduceEqDiff, ↓reduceIte, reduceCtorEq, Nat.reduceLT, Nat.reducePow, Nat.reduceDiv, Nat.reduceMod, Nat.reduceBEq, Int.reduceLT, Int.reduceLE, Int.reduceToNat, Int.reduceAdd, Int.reduceSub, Int.reduceNeg, ne_eq, forall_const] at hc); first | (exfalso; omega) | exact absurd trivial hc | skip))
    | (with_reducible apply hnx; clear hnx nx)
    | (with_reducible refine And.intro (by omega) ?_)
    | (with_reducible refine And.intro ?_ ?_)
    | (clear hnx nx; with_reducible apply hnx; clear hnx nx)
    | (clear hnx nx; clear hnx nx; with_reducible apply hnx; clear hnx nx))
    all_goals first
      | (exfalso
         omega)
      | skip
    refine W_loop_k (fun k τ => ∃ (i : Nat) (N : Int) (u : List UInt8), i ≤ 8 ∧ k = 8 - i ∧ u = o ++ (be8 m).take i ∧ [N, N2, N1].Nodup ∧ τ = ⟨fr 58 [(1, .ptr N1 0), (2, .ptr N2 0), (3, pint .u64 m), (4, .row N 1 u.length), (23, pint .i64 i)], [(N, ⟨5, true, 1, u.map pbyte⟩), (N2, ⟨82, false, 0, oC S 0⟩), (N1, ⟨79, false, 0, st3 (stS t) (qOf t) t.length⟩)]⟩) 8
      ⟨fr 58 [(1, .ptr N1 0), (2, .ptr N2 0), (3, pint .u64 m), (4, .row N 1 o.length), (23, pint .i64 (0 : Nat))], [(N, ⟨5, true, 1, o.map pbyte⟩), (N2, ⟨82, false, 0, oC S 0⟩), (N1, ⟨79, false, 0, st3 (stS t) (qOf t) t.length⟩)]⟩ (by
      refine Wk_fr (by simp only [wkb, Nat.reduceAdd, Nat.reduceMul, Nat.reduceSub, Nat.reduceLeDiff, Nat.reduceEqDiff, ↓reduceIte, reduceCtorEq, Nat.reduceLT, Nat.reducePow, Nat.reduceDiv, Nat.reduceMod, Nat.reduceBEq, Int.reduceLT, Int.reduceLE, Int.reduceToNat, Int.reduceAdd, Int.reduceSub, Int.reduceNeg]) ?_
      exact Sub_refl hnd0) ⟨0, N, o, by omega, by omega, by simp, hnd0, rfl⟩ ?_
    clear hnm hnd hnd0 htm hs2 hlp lp
    rintro k τ ⟨i, N, u, hi, rfl, hu, hnd, rfl⟩ lp2 hlp2
    have hnd0 := hnd
    simp only [List.nodup_cons, List.mem_cons, List.not_mem_nil, or_false, not_or, List.nodup_nil, and_true, not_false_eq_true] at hnd
    have hnm : ((¬ N = N2 ∧ ¬ N2 = N) ∧ ¬ N = N1 ∧ ¬ N1 = N) ∧ ¬ N2 = N1 ∧ ¬ N1 = N2 := ⟨⟨⟨hnd.1.1, fun e => hnd.1.1 e.symm⟩, hnd.1.2, fun e => hnd.1.2 e.symm⟩, hnd.2, fun e => hnd.2 e.symm⟩
    have hul : u.length = 1 + z + i := by
      rw [hu]
      simp [be8_len, hol]
      omega
    by_cases hi8 : i < 8
    · have hsh := shr8 m (56 - 8 * (i : Int)) (7 - i) (by omega) (by omega)
      have hby := byte_mod (m / 256 ^ (7 - i))
      have htk := be8_take m i hi8
      repeat' (first
    | (with_reducible apply W_seq_k; intro nx hnx)
    | (with_reducible first | refine wr 1099520016639 ?_)
    | ((with_reducible first | (apply WL_op; intro nx hnx) | refine Ev_out ?_ | refine wc ?_ | (refine pf hnm fun nm hnm => ?_; try simp only [fmb] at hnm) | (refine pm hnm fun nm hnm => ?_; try simp only [fmb] at hnm)); try (simp (maxSteps := 2000000) (disch := omega) only [ev, ↓evp, PV.cells, PV.one, PV.mem?, Value.cells, Nat.reduceAdd, Nat.reduceMul, Nat.reduceSub, Nat.reduceLeDiff, Nat.reduceEqDiff, ↓reduceIte, reduceCtorEq, Nat.reduceLT, Nat.reducePow, Nat.reduceDiv, Nat.reduceMod, Nat.reduceBEq, Int.reduceLT, Int.reduceLE, Int.reduceToNat, Int.reduceAdd, Int.reduceSub, Int.reduceNeg, hnm, Tryd.tf0, Tryd.tf1, Tryd.tf2, Tryd.tf3, Tryd.tf4, Tryd.tf5, Tryd.tf9, Tryd.tf27, Tryd.tf74, Tryd.tf75, Tryd.tf77, Tryd.tf79, Tryd.tf82, Tryd.call36, hsh, hby]))
    | ((with_reducible first | apply W_block | apply W_scope | apply WL_nil | apply W_label | apply W_skip | apply W_exit | apply W_ret) <;> try simp only [kks, Nat.reduceAdd, Nat.reduceMul, Nat.reduceSub, Nat.reduceLeDiff, Nat.reduceEqDiff, ↓reduceIte, reduceCtorEq, Nat.reduceLT, Nat.reducePow, Nat.reduceDiv, Nat.reduceMod, Nat.reduceBEq, Int.reduceLT, Int.reduceLE, Int.reduceToNat, Int.reduceAdd, Int.reduceSub, Int.reduceNeg])
    | (with_reducible apply pg <;> (intro hc; (try simp only [hcb, Nat.reduceAdd, Nat.reduceMul, Nat.reduceSub, Nat.reduceLeDiff, Nat.reduceEqDiff, ↓reduceIte, reduceCtorEq, Nat.reduceLT, Nat.reducePow, Nat.reduceDiv, Nat.reduceMod, Nat.reduceBEq, Int.reduceLT, Int.reduceLE, Int.reduceToNat, Int.reduceAdd, Int.reduceSub, Int.reduceNeg, ne_eq, forall_const] at hc); first | (exfalso; omega) | exact absurd trivial hc | skip))
    | (with_reducible apply hnx; clear hnx nx)
    | (with_reducible refine And.intro (by omega) ?_)
    | (with_reducible refine And.intro ?_ ?_)
    | (clear hnx nx; with_reducible apply hnx; clear hnx nx)
    | (clear hnx nx; clear hnx nx; with_reducible apply hnx; clear hnx nx))
      all_goals first
        | (exfalso
           omega)
        | (refine hlp2 _ (8 - (i + 1)) _ (by omega) ?_ ⟨i + 1, nm, u ++ [UInt8.ofNat (m / 256 ^ (7 - i) % 256)], by omega, rfl, by rw [hu, htk, List.append_assoc], by simp [hnm], rfl⟩
           rw [List.length_append, List.map_append]
           refine Wk_fr (by simp only [wkb, Nat.reduceAdd, Nat.reduceMul, Nat.reduceSub, Nat.reduceLeDiff, Nat.reduceEqDiff, ↓reduceIte, reduceCtorEq, Nat.reduceLT, Nat.reducePow, Nat.reduceDiv, Nat.reduceMod, Nat.reduceBEq, Int.reduceLT, Int.reduceLE, Int.reduceToNat, Int.reduceAdd, Int.reduceSub, Int.reduceNeg, List.length_cons, List.length_nil, Nat.zero_add]) ?_
           exact ⟨by simp, by simp [names, hnm]⟩)
    · have hi9 : i = 8 := by omega
      subst hi9
      have hfu : u = padT t.length := by
        rw [hu, ho, hze, List.take_of_length_le (by rw [be8_len]; omega), padT, hm]
        rfl
      have hb1 := isByte_pb u
      have hb2 := unb_pb u
      have htu : List.take u.length (u.map pbyte) = u.map pbyte := List.take_of_length_le (by simp)
      have h1t := st3_one (S := stS t) (Q := qOf t) (n := t.length)
      have ht73 : List.take 73 (st3 (stS t) (qOf t) t.length) = st3 (stS t) (qOf t) t.length := List.take_of_length_le (by omega)
      have hd73 : List.drop 73 (st3 (stS t) (qOf t) t.length) = [] := List.drop_of_length_le (by omega)
      rw [← hfu, stC_st3] at hadd
      rw [← hfu] at hSd
      obtain ⟨y, hy⟩ : ∃ y, y = t ++ u := ⟨_, rfl⟩
      rw [← hy] at hadd hSd
      have hSy := stS_len y
      have hQy := qOf_len y
      have hl4 := st3_len (n := y.length) hSy hQy
      have h1y := st3_one (S := stS y) (Q := qOf y) (n := y.length)
      have hy73 : List.take 73 (st3 (stS y) (qOf y) y.length) = st3 (stS y) (qOf y) y.length := List.take_of_length_le (by omega)
      refine W_x (τ := ⟨fr 58 [(4, .list 1 (u.map pbyte)), (1, .ptr N1 0), (2, .ptr N2 0), (3, pint .u64 m), (23, pint .i64 (8 : Nat))], [(N2, ⟨82, false, 0, oC S 0⟩), (N1, ⟨79, false, 0, st3 (stS t) (qOf t) t.length⟩)]⟩) (Wx.trans (Wx.of_wk (τ := ⟨fr 58 [(4, .row N 1 u.length), (1, .ptr N1 0), (2, .ptr N2 0), (3, pint .u64 m), (23, pint .i64 (8 : Nat))], [(N, ⟨5, true, 1, u.map pbyte⟩), (N2, ⟨82, false, 0, oC S 0⟩), (N1, ⟨79, false, 0, st3 (stS t) (qOf t) t.length⟩)]⟩) (by
        refine Wk_fr (by simp only [wkb, Nat.reduceAdd, Nat.reduceMul, Nat.reduceSub, Nat.reduceLeDiff, Nat.reduceEqDiff, ↓reduceIte, reduceCtorEq, Nat.reduceLT, Nat.reducePow, Nat.reduceDiv, Nat.reduceMod, Nat.reduceBEq, Int.reduceLT, Int.reduceLE, Int.reduceToNat, Int.reduceAdd, Int.reduceSub, Int.reduceNeg]) ?_
        exact Sub_refl hnd0)) (by
        have hw := Wx_bornH (G := G) (I := []) (N := 58) (d := 4) (L := [(1, .ptr N1 0), (2, .ptr N2 0), (3, pint .u64 m), (23, pint .i64 (8 : Nat))]) (n := N) (e := 5) (es := 1) (len := u.length) (cells := u.map pbyte) (H := [(N2, ⟨82, false, 0, oC S 0⟩), (N1, ⟨79, false, 0, st3 (stS t) (qOf t) t.length⟩)]) (by simp) (by simp) (by simp [frz, frz1, hnm]) (by
          simp only [List.forall_mem_cons, List.not_mem_nil, false_implies, implies_true, and_true]
          exact ⟨⟨by simp [hnm], oC_flat N _⟩, by simp [hnm], st3_flat N _⟩)
        rwa [elemsOf_one (by simp), htu] at hw)) ?_
      repeat' (first
    | (with_reducible apply W_seq_k; intro nx hnx)
    | (with_reducible first | refine wr 1099520016639 ?_)
    | ((with_reducible first | (apply WL_op; intro nx hnx) | refine Ev_out ?_ | refine wc ?_ | (refine pf hnm fun nm hnm => ?_; try simp only [fmb] at hnm) | (refine pm hnm fun nm hnm => ?_; try simp only [fmb] at hnm)); try (simp (maxSteps := 2000000) (disch := omega) only [ev, ↓evp, PV.cells, PV.one, PV.mem?, Value.cells, Nat.reduceAdd, Nat.reduceMul, Nat.reduceSub, Nat.reduceLeDiff, Nat.reduceEqDiff, ↓reduceIte, reduceCtorEq, Nat.reduceLT, Nat.reducePow, Nat.reduceDiv, Nat.reduceMod, Nat.reduceBEq, Int.reduceLT, Int.reduceLE, Int.reduceToNat, Int.reduceAdd, Int.reduceSub, Int.reduceNeg, hnm, Tryd.tf0, Tryd.tf1, Tryd.tf2, Tryd.tf3, Tryd.tf4, Tryd.tf5, Tryd.tf9, Tryd.tf27, Tryd.tf74, Tryd.tf75, Tryd.tf77, Tryd.tf79, Tryd.tf82, Tryd.call36, hl3, hb1, hb2, htu, h1t, ht73, hd73, hl4, h1y, hy73]))
    | ((with_reducible first | apply W_block | apply W_scope | apply WL_nil | apply W_label | apply W_skip | apply W_exit | apply W_ret) <;> try simp only [kks, Nat.reduceAdd, Nat.reduceMul, Nat.reduceSub, Nat.reduceLeDiff, Nat.reduceEqDiff, ↓reduceIte, reduceCtorEq, Nat.reduceLT, Nat.reducePow, Nat.reduceDiv, Nat.reduceMod, Nat.reduceBEq, Int.reduceLT, Int.reduceLE, Int.reduceToNat, Int.reduceAdd, Int.reduceSub, Int.reduceNeg])
    | (with_reducible apply pg <;> (intro hc; (try simp only [hcb, Nat.reduceAdd, Nat.reduceMul, Nat.reduceSub, Nat.reduceLeDiff, Nat.reduceEqDiff, ↓reduceIte, reduceCtorEq, Nat.reduceLT, Nat.reducePow, Nat.reduceDiv, Nat.reduceMod, Nat.reduceBEq, Int.reduceLT, Int.reduceLE, Int.reduceToNat, Int.reduceAdd, Int.reduceSub, Int.reduceNeg, ne_eq, forall_const] at hc); first | (exfalso; omega) | exact absurd trivial hc | skip))
    | (with_reducible apply hnx; clear hnx nx)
    | (with_reducible refine And.intro (by omega) ?_)
    | (with_reducible refine And.intro ?_ ?_)
    | (with_reducible refine pe (hadd) ?_)
    | (clear hnx nx; with_reducible apply hnx; clear hnx nx)
    | (clear hnx nx; clear hnx nx; with_reducible apply hnx; clear hnx nx))
      all_goals first
        | exact rfl
        | (exfalso
           omega)
        | skip
      have hsy : sha t = outB (stS y) := by rw [hy, hfu]; exact hsha
      rw [← hSd] at *
      clear hnd hnd0 lp2 hlp2
      have hnd : [nm, N2, N1].Nodup := by simp [hnm]
      refine W_loop_k (fun z τ => ∃ j : Nat, j ≤ 32 ∧ z = 32 - j ∧ τ = ⟨fr 58 [(40, pint .i64 j), (6, .ptr nm 0), (2, .ptr N2 0), (1, .ptr N1 0)], [(nm, ⟨82, false, 0, oC S j⟩), (N2, ⟨82, false, 0, oC S 0⟩), (N1, ⟨79, false, 0, st3 S (qOf y) y.length⟩)]⟩) 32
        ⟨fr 58 [(40, pint .i64 (0 : Nat)), (6, .ptr nm 0), (2, .ptr N2 0), (1, .ptr N1 0)], [(nm, ⟨82, false, 0, oC S 0⟩), (N2, ⟨82, false, 0, oC S 0⟩), (N1, ⟨79, false, 0, st3 S (qOf y) y.length⟩)]⟩ (by
        rw [oC_zero]
        refine Wk_fr (by simp only [wkb, Nat.reduceAdd, Nat.reduceMul, Nat.reduceSub, Nat.reduceLeDiff, Nat.reduceEqDiff, ↓reduceIte, reduceCtorEq, Nat.reduceLT, Nat.reducePow, Nat.reduceDiv, Nat.reduceMod, Nat.reduceBEq, Int.reduceLT, Int.reduceLE, Int.reduceToNat, Int.reduceAdd, Int.reduceSub, Int.reduceNeg]) ?_
        exact Sub_refl hnd) ⟨0, by omega, by omega, rfl⟩ ?_
      rintro z τ ⟨j, hj, rfl, rfl⟩ lp hlp
      have hcl := oC_len S j
      have hcl0 := oC_len S 0
      by_cases hj2 : j < 32
      · have td : (j : Int).tdiv 4 = ((j / 4 : Nat) : Int) := by rw [Int.tdiv_eq_ediv_of_nonneg (by omega)]; omega
        have tm : (j : Int).tmod 4 = ((j % 4 : Nat) : Int) := by rw [Int.tmod_eq_emod_of_nonneg (by omega)]; omega
        have hg := st3_get (Q := qOf y) (n := y.length) hSy (j / 4) (by omega)
        obtain ⟨x, hx⟩ : ∃ x, x = S.getD (j / 4) 0 := ⟨_, rfl⟩
        rw [← hx] at hg
        have hsh := shr4 x.toNat (24 - 8 * ((j % 4 : Nat) : Int)) (3 - j % 4) (by omega) (by omega)
        have hby := byte_mod (x.toNat / 256 ^ (3 - j % 4))
        have hob : UInt8.ofNat (x.toNat / 256 ^ (3 - j % 4) % 256) = oB S j := by rw [oB, ← hx]
        rw [hob] at hby
        have hset := oC_set S j hj2
        repeat' (first
    | (with_reducible apply W_seq_k; intro nx hnx)
    | (with_reducible first | refine wr 1099520016639 ?_)
    | ((with_reducible first | (apply WL_op; intro nx hnx) | refine Ev_out ?_ | refine wc ?_ | (refine pf hnm fun nm hnm => ?_; try simp only [fmb] at hnm) | (refine pm hnm fun nm hnm => ?_; try simp only [fmb] at hnm)); try (simp (maxSteps := 2000000) (disch := omega) only [ev, ↓evp, PV.cells, PV.one, PV.mem?, Value.cells, Nat.reduceAdd, Nat.reduceMul, Nat.reduceSub, Nat.reduceLeDiff, Nat.reduceEqDiff, ↓reduceIte, reduceCtorEq, Nat.reduceLT, Nat.reducePow, Nat.reduceDiv, Nat.reduceMod, Nat.reduceBEq, Int.reduceLT, Int.reduceLE, Int.reduceToNat, Int.reduceAdd, Int.reduceSub, Int.reduceNeg, hnm, Tryd.tf0, Tryd.tf1, Tryd.tf2, Tryd.tf3, Tryd.tf4, Tryd.tf5, Tryd.tf9, Tryd.tf27, Tryd.tf74, Tryd.tf75, Tryd.tf77, Tryd.tf79, Tryd.tf82, Tryd.call36, td, tm, hcl, hcl0, hg, hsh, hby, hset]))
    | ((with_reducible first | apply W_block | apply W_scope | apply WL_nil | apply W_label | apply W_skip | apply W_exit | apply W_ret) <;> try simp only [kks, Nat.reduceAdd, Nat.reduceMul, Nat.reduceSub, Nat.reduceLeDiff, Nat.reduceEqDiff, ↓reduceIte, reduceCtorEq, Nat.reduceLT, Nat.reducePow, Nat.reduceDiv, Nat.reduceMod, Nat.reduceBEq, Int.reduceLT, Int.reduceLE, Int.reduceToNat, Int.reduceAdd, Int.reduceSub, Int.reduceNeg])
    | (with_reducible apply pg <;> (intro hc; (try simp only [hcb, Nat.reduceAdd, Nat.reduceMul, Nat.reduceSub, Nat.reduceLeDiff, Nat.reduceEqDiff, ↓reduceIte, reduceCtorEq, Nat.reduceLT, Nat.reducePow, Nat.reduceDiv, Nat.reduceMod, Nat.reduceBEq, Int.reduceLT, Int.reduceLE, Int.reduceToNat, Int.reduceAdd, Int.reduceSub, Int.reduceNeg, ne_eq, forall_const] at hc); first | (exfalso; omega) | exact absurd trivial hc | skip))
    | (with_reducible apply hnx; clear hnx nx)
    | (with_reducible refine And.intro (by omega) ?_)
    | (with_reducible refine And.intro ?_ ?_)
    | (clear hnx nx; with_reducible apply hnx; clear hnx nx)
    | (clear hnx nx; clear hnx nx; with_reducible apply hnx; clear hnx nx))
        all_goals first
          | (exfalso
             omega)
          | (refine hlp _ (32 - (j + 1)) _ (by omega) ?_ ⟨j + 1, by omega, rfl, rfl⟩
             refine Wk_fr (by simp only [wkb, Nat.reduceAdd, Nat.reduceMul, Nat.reduceSub, Nat.reduceLeDiff, Nat.reduceEqDiff, ↓reduceIte, reduceCtorEq, Nat.reduceLT, Nat.reducePow, Nat.reduceDiv, Nat.reduceMod, Nat.reduceBEq, Int.reduceLT, Int.reduceLE, Int.reduceToNat, Int.reduceAdd, Int.reduceSub, Int.reduceNeg]) ?_
             exact Sub_refl hnd)
      · have hje : j = 32 := by omega
        subst hje
        have hcf := oC_full S
        have hone := all_one_byte (outB S)
        have hol := outB_len S
        have htk : List.take 32 ((outB S).map pbyte) = (outB S).map pbyte := List.take_of_length_le (by simp [hol])
        have hdr : List.drop 32 (oC S 0) = [] := List.drop_of_length_le (by omega)
        rw [hcf]
        repeat' (first
    | (with_reducible apply W_seq_k; intro nx hnx)
    | (with_reducible first | refine wr 1099520016639 ?_)
    | ((with_reducible first | (apply WL_op; intro nx hnx) | refine Ev_out ?_ | refine wc ?_ | (refine pf hnm fun nm hnm => ?_; try simp only [fmb] at hnm) | (refine pm hnm fun nm hnm => ?_; try simp only [fmb] at hnm)); try (simp (maxSteps := 2000000) (disch := omega) only [ev, ↓evp, PV.cells, PV.one, PV.mem?, Value.cells, Nat.reduceAdd, Nat.reduceMul, Nat.reduceSub, Nat.reduceLeDiff, Nat.reduceEqDiff, ↓reduceIte, reduceCtorEq, Nat.reduceLT, Nat.reducePow, Nat.reduceDiv, Nat.reduceMod, Nat.reduceBEq, Int.reduceLT, Int.reduceLE, Int.reduceToNat, Int.reduceAdd, Int.reduceSub, Int.reduceNeg, hnm, Tryd.tf0, Tryd.tf1, Tryd.tf2, Tryd.tf3, Tryd.tf4, Tryd.tf5, Tryd.tf9, Tryd.tf27, Tryd.tf74, Tryd.tf75, Tryd.tf77, Tryd.tf79, Tryd.tf82, Tryd.call36, hol, htk, hone, hcl0, hdr, Nat.min_self]))
    | ((with_reducible first | apply W_block | apply W_scope | apply WL_nil | apply W_label | apply W_skip | apply W_exit | apply W_ret) <;> try simp only [kks, Nat.reduceAdd, Nat.reduceMul, Nat.reduceSub, Nat.reduceLeDiff, Nat.reduceEqDiff, ↓reduceIte, reduceCtorEq, Nat.reduceLT, Nat.reducePow, Nat.reduceDiv, Nat.reduceMod, Nat.reduceBEq, Int.reduceLT, Int.reduceLE, Int.reduceToNat, Int.reduceAdd, Int.reduceSub, Int.reduceNeg])
    | (with_reducible apply pg <;> (intro hc; (try simp only [hcb, Nat.reduceAdd, Nat.reduceMul, Nat.reduceSub, Nat.reduceLeDiff, Nat.reduceEqDiff, ↓reduceIte, reduceCtorEq, Nat.reduceLT, Nat.reducePow, Nat.reduceDiv, Nat.reduceMod, Nat.reduceBEq, Int.reduceLT, Int.reduceLE, Int.reduceToNat, Int.reduceAdd, Int.reduceSub, Int.reduceNeg, ne_eq, forall_const] at hc); first | (exfalso; omega) | exact absurd trivial hc | skip))
    | (with_reducible apply hnx; clear hnx nx)
    | (with_reducible refine And.intro (by omega) ?_)
    | (with_reducible refine And.intro ?_ ?_)
    | (clear hnx nx; with_reducible apply hnx; clear hnx nx)
    | (clear hnx nx; clear hnx nx; with_reducible apply hnx; clear hnx nx))
        all_goals first
          | (exfalso
             omega)
          | skip
        refine hfin _ _ (Fin_cell (res := .agg ((outB S).map pbyte)) Tryd.tf82 (n := N2) (off := 0) (o := ⟨82, false, 0, (outB S).map pbyte⟩) (by simp only [fr_getD_cons, Nat.reduceEqDiff, Nat.reduceLT, ↓reduceIte]) (by simp [look, hnm]) ?_ (Sub_nil _) ⟨by rw [hsy], rfl⟩)
        simp [pload, hol, htk, hone]
  · have hz1 : z < zN t.length := by
      rcases Nat.lt_or_ge z (zN t.length) with h | h
      · exact h
      · exact absurd (by rw [Nat.le_antisymm hzz h]; exact zN_go _) hst
    have hoz : o ++ [0] = 128 :: List.replicate (z + 1) 0 := by
      rw [ho, List.replicate_succ']
      rfl
    have hsz : (t.length + o.length) % 64 ≠ 56 := by rw [hol, ← Nat.add_assoc]; exact hst
    repeat' (first
    | (with_reducible apply W_seq_k; intro nx hnx)
    | (with_reducible first | refine wr 1099520016639 ?_)
    | ((with_reducible first | (apply WL_op; intro nx hnx) | refine Ev_out ?_ | refine wc ?_ | (refine pf hnm fun nm hnm => ?_; try simp only [fmb] at hnm) | (refine pm hnm fun nm hnm => ?_; try simp only [fmb] at hnm)); try (simp (maxSteps := 2000000) (disch := omega) only [ev, ↓evp, PV.cells, PV.one, PV.mem?, Value.cells, Nat.reduceAdd, Nat.reduceMul, Nat.reduceSub, Nat.reduceLeDiff, Nat.reduceEqDiff, ↓reduceIte, reduceCtorEq, Nat.reduceLT, Nat.reducePow, Nat.reduceDiv, Nat.reduceMod, Nat.reduceBEq, Int.reduceLT, Int.reduceLE, Int.reduceToNat, Int.reduceAdd, Int.reduceSub, Int.reduceNeg, hnm, Tryd.tf0, Tryd.tf1, Tryd.tf2, Tryd.tf3, Tryd.tf4, Tryd.tf5, Tryd.tf9, Tryd.tf27, Tryd.tf74, Tryd.tf75, Tryd.tf77, Tryd.tf79, Tryd.tf82, Tryd.call36, hl3, hg3, htm]))
    | ((with_reducible first | apply W_block | apply W_scope | apply WL_nil | apply W_label | apply W_skip | apply W_exit | apply W_ret) <;> try simp only [kks, Nat.reduceAdd, Nat.reduceMul, Nat.reduceSub, Nat.reduceLeDiff, Nat.reduceEqDiff, ↓reduceIte, reduceCtorEq, Nat.reduceLT, Nat.reducePow, Nat.reduceDiv, Nat.reduceMod, Nat.reduceBEq, Int.reduceLT, Int.reduceLE, Int.reduceToNat, Int.reduceAdd, Int.reduceSub, Int.reduceNeg])
    | (with_reducible apply pg <;> (intro hc; (try simp only [hcb, Nat.reduceAdd, Nat.reduceMul, Nat.reduceSub, Nat.reduceLeDiff, Nat.reduceEqDiff, ↓reduceIte, reduceCtorEq, Nat.reduceLT, Nat.reducePow, Nat.reduceDiv, Nat.reduceMod, Nat.reduceBEq, Int.reduceLT, Int.reduceLE, Int.reduceToNat, Int.reduceAdd, Int.reduceSub, Int.reduceNeg, ne_eq, forall_const] at hc); first | (exfalso; omega) | exact absurd trivial hc | skip))
    | (with_reducible apply hnx; clear hnx nx)
    | (with_reducible refine And.intro (by omega) ?_)
    | (with_reducible refine And.intro ?_ ?_)
    | (clear hnx nx; with_reducible apply hnx; clear hnx nx)
    | (clear hnx nx; clear hnx nx; with_reducible apply hnx; clear hnx nx))
    all_goals first
      | (exfalso
         omega)
      | (refine hlp _ (zN t.length - (z + 1)) _ (by omega) ?_ ⟨z + 1, nm, o ++ [0], by omega, rfl, hoz, by simp [hnm], rfl⟩
         rw [List.length_append, List.map_append]
         refine Wk_fr (by simp only [wkb, Nat.reduceAdd, Nat.reduceMul, Nat.reduceSub, Nat.reduceLeDiff, Nat.reduceEqDiff, ↓reduceIte, reduceCtorEq, Nat.reduceLT, Nat.reducePow, Nat.reduceDiv, Nat.reduceMod, Nat.reduceBEq, Int.reduceLT, Int.reduceLE, Int.reduceToNat, Int.reduceAdd, Int.reduceSub, Int.reduceNeg, List.length_cons, List.length_nil, Nat.zero_add]) ?_
         exact ⟨by simp, by simp [names, hnm]⟩)
set_option maxRecDepth 100000 in
set_option maxHeartbeats 8000000 in
theorem hsum_c (G : Globs) (hG : G 0 = .iptr (KS.map pw) 0) (b : List UInt8) (hb : b.length ≤ 4294960000) : PCalls Tryd.prog G 83 [.list 1 (b.map pbyte)] [] (fun res H => res = .agg ((sha b).map pbyte) ∧ H = []) := by
  have hadd := add_c G hG [] b (by simp only [List.length_nil]; omega)
  rw [List.nil_append] at hadd
  have hb1 := isByte_pb b
  have hb2 := unb_pb b
  have hone := all_one_byte (sha b)
  have hol := sha_len b
  have htk : List.take 32 ((sha b).map pbyte) = (sha b).map pbyte := List.take_of_length_le (by simp [hol])
  (refine PCalls_f Tryd.func83 rfl Tryd.ntmps83 Tryd.results83 (by simp) fun fin hfin => ?_; have hnm : True := trivial; simp only [ev, Nat.reduceAdd, Nat.reduceMul, Nat.reduceSub, Nat.reduceLeDiff, Nat.reduceEqDiff, ↓reduceIte, reduceCtorEq, Nat.reduceLT, Nat.reducePow, Nat.reduceDiv, Nat.reduceMod, Nat.reduceBEq, Int.reduceLT, Int.reduceLE, Int.reduceToNat, Int.reduceAdd, Int.reduceSub, Int.reduceNeg])
  repeat' (first
    | (with_reducible apply W_seq_k; intro nx hnx)
    | (with_reducible first | refine wr 5 ?_ | refine wd (id := 1) 5 2 (.op 1 true (.op 2 true (.op 0 true (.op 3 false (.op 4 false (.op 5 false (.done))))))) (by kernel_rfl) ?_)
    | ((with_reducible first | (apply WL_op; intro nx hnx) | refine Ev_out ?_ | refine wc ?_ | (apply popsD_op; intro nx hnx) | (refine popsD_alt ?_ ?_; intro nx hnx) | (refine pf hnm fun nm hnm => ?_; try simp only [fmb] at hnm) | (refine pm hnm fun nm hnm => ?_; try simp only [fmb] at hnm)); try (simp (maxSteps := 2000000) (disch := omega) only [ev, ↓evp, PV.cells, PV.one, PV.mem?, Value.cells, Nat.reduceAdd, Nat.reduceMul, Nat.reduceSub, Nat.reduceLeDiff, Nat.reduceEqDiff, ↓reduceIte, reduceCtorEq, Nat.reduceLT, Nat.reducePow, Nat.reduceDiv, Nat.reduceMod, Nat.reduceBEq, Int.reduceLT, Int.reduceLE, Int.reduceToNat, Int.reduceAdd, Int.reduceSub, Int.reduceNeg, hnm, Tryd.tf0, Tryd.tf5, Tryd.tf9, Tryd.tf27, Tryd.tf79, Tryd.tf82, Tryd.call35, Tryd.call36, Tryd.call37, hb1, hb2, hone, hol, htk]))
    | ((with_reducible first | apply W_block | apply W_scope | apply WL_nil | apply W_label | apply W_skip | apply W_exit | apply W_ret | apply popsD_done | exact popsD_stop) <;> try simp only [kks, Nat.reduceAdd, Nat.reduceMul, Nat.reduceSub, Nat.reduceLeDiff, Nat.reduceEqDiff, ↓reduceIte, reduceCtorEq, Nat.reduceLT, Nat.reducePow, Nat.reduceDiv, Nat.reduceMod, Nat.reduceBEq, Int.reduceLT, Int.reduceLE, Int.reduceToNat, Int.reduceAdd, Int.reduceSub, Int.reduceNeg])
    | (with_reducible apply hnx; clear hnx nx)
    | (with_reducible refine And.intro (by omega) ?_)
    | (with_reducible refine And.intro ?_ ?_)
    | (with_reducible refine pe (begin_c G) ?_)
    | (with_reducible refine pe (hadd) ?_)
    | (with_reducible refine pe (ssum_c G hG b hb) ?_)
    | (clear hnx nx; with_reducible apply hnx; clear hnx nx)
    | (clear hnx nx; clear hnx nx; with_reducible apply hnx; clear hnx nx))
  all_goals first
    | exact rfl
    | (refine hfin _ _ (Fin_cell (res := .agg ((sha b).map pbyte)) Tryd.tf82 (n := nm) (off := 0) (o := ⟨82, false, 0, (sha b).map pbyte⟩) (by simp only [fr_getD_cons, Nat.reduceEqDiff, Nat.reduceLT, ↓reduceIte]) (by simp [look, hnm]) ?_ (Sub_nil _) ⟨rfl, rfl⟩)
       simp [pload, hol, htk, hone])
end Go.PM

namespace Go.PM
open Go.Proofs
attribute [local irreducible] W PCalls pcall pcallI WL
theorem pb_flat {l : List UInt8} (m : Int) (cs : List PV) : ∀ u ∈ l.map pbyte, frz1 m cs u = u ∧ u.one = true := by
  intro u hu
  obtain ⟨x, _, rfl⟩ := List.mem_map.1 hu
  exact ⟨rfl, rfl⟩
set_option maxRecDepth 100000 in
set_option maxHeartbeats 8000000 in
theorem b32_c (G : Globs) (h : List UInt8) (hh : h.length = 32) : PCalls Tryd.prog G 94 [.agg (h.map pbyte)] [] (fun res H => res = pstr h ∧ H = []) := by
  have h1 := all_one_byte h
  have hl : (h.map pbyte).length = 32 := by rw [List.length_map, hh]
  (refine PCalls_f Tryd.func94 rfl Tryd.ntmps94 Tryd.results94 (by simp) fun fin hfin => ?_; have hnm : True := trivial; simp only [ev, simprocAttr])
  repeat' (first
    | (with_reducible apply W_seq_k; intro nx hnx)
    | (with_reducible first | refine wr 31 ?_)
    | ((with_reducible first | (apply WL_op; intro nx hnx) | refine Ev_out ?_ | refine wc ?_ | (refine pf hnm fun nm hnm => ?_; try simp only [fmb] at hnm) | (refine pm hnm fun nm hnm => ?_; try simp only [fmb] at hnm)); try (simp (maxSteps := 2000000) (disch := omega) only [ev, ↓evp, PV.cells, PV.one, PV.mem?, Value.cells, simprocAttr, hnm, Tryd.tf0, Tryd.tf1, Tryd.tf3, Tryd.tf4, Tryd.tf5, Tryd.tf9, Tryd.tf27, Tryd.tf82, hl, h1]))
    | ((with_reducible first | apply W_block | apply W_scope | apply WL_nil | apply W_label | apply W_skip | apply W_exit | apply W_ret) <;> try simp only [kks, simprocAttr])
    | (with_reducible apply pg <;> (intro hc; (try simp only [hcb, simprocAttr, ne_eq, forall_const] at hc); first | (exfalso; omega) | exact absurd trivial hc | skip))
    | (with_reducible apply hnx; clear hnx nx)
    | (with_reducible refine And.intro (by omega) ?_)
    | (with_reducible refine And.intro ?_ ?_)
    | (clear hnx nx; with_reducible apply hnx; clear hnx nx)
    | (clear hnx nx; clear hnx nx; with_reducible apply hnx; clear hnx nx))
  refine W_adopt_f 3 5 1 (by simp only [fr_getD_cons, Nat.reduceEqDiff, Nat.reduceLT, ↓reduceIte]) fun D0 hD0 => ?_
  obtain ⟨N1, hN1⟩ : ∃ N, N = nm := ⟨_, rfl⟩
  subst hN1
  have hD : ¬ D0 = N1 := by simpa [names] using hD0
  refine W_loop_k (fun z τ => ∃ (i : Nat) (N : Int) (o : List UInt8), i ≤ 32 ∧ z = 32 - i ∧ o = h.take i ∧ ¬ N = N1 ∧ τ = ⟨fr 17 [(3, .row N 1 o.length), (1, .ptr N1 0), (4, pint .i64 i)], [(N, ⟨5, true, 1, o.map pbyte⟩), (N1, ⟨82, false, 0, h.map pbyte⟩)]⟩) 32
    ⟨fr 17 [(3, .row D0 1 0), (1, .ptr N1 0), (4, pint .i64 (0 : Nat))], [(D0, ⟨5, true, 1, []⟩), (N1, ⟨82, false, 0, h.map pbyte⟩)]⟩ (by
    refine Wk_fr (by simp only [wkb, simprocAttr]) ?_
    exact ⟨by simp, by simpa [names] using hD⟩) ⟨0, D0, [], by omega, by omega, by simp, hD, rfl⟩ ?_
  rintro z τ ⟨i, N, o, hi, rfl, ho, hN, rfl⟩ lp hlp
  clear hnm
  have hnm : ¬ N = N1 ∧ ¬ N1 = N := ⟨hN, fun e => hN e.symm⟩
  have hol : o.length = i := by rw [ho, List.length_take]; omega
  by_cases hik : i < 32
  · obtain ⟨x, hg⟩ : ∃ x, h[i]? = some x := ⟨_, List.getElem?_eq_getElem (show i < h.length by omega)⟩
    have hg2 : h[i]'(by omega) = x := by
      rw [List.getElem?_eq_getElem (by omega)] at hg
      exact Option.some.inj hg
    have htk : h.take (i + 1) = h.take i ++ [x] := by
      rw [List.take_add_one, hg]
      rfl
    repeat' (first
    | (with_reducible apply W_seq_k; intro nx hnx)
    | (with_reducible first | refine wr 31 ?_)
    | ((with_reducible first | (apply WL_op; intro nx hnx) | refine Ev_out ?_ | refine wc ?_ | (refine pf hnm fun nm hnm => ?_; try simp only [fmb] at hnm) | (refine pm hnm fun nm hnm => ?_; try simp only [fmb] at hnm)); try (simp (maxSteps := 2000000) (disch := omega) only [ev, ↓evp, PV.cells, PV.one, PV.mem?, Value.cells, simprocAttr, hnm, Tryd.tf0, Tryd.tf1, Tryd.tf3, Tryd.tf4, Tryd.tf5, Tryd.tf9, Tryd.tf27, Tryd.tf82, hl, hg, hg2]))
    | ((with_reducible first | apply W_block | apply W_scope | apply WL_nil | apply W_label | apply W_skip | apply W_exit | apply W_ret) <;> try simp only [kks, simprocAttr])
    | (with_reducible apply pg <;> (intro hc; (try simp only [hcb, simprocAttr, ne_eq, forall_const] at hc); first | (exfalso; omega) | exact absurd trivial hc | skip))
    | (with_reducible apply hnx; clear hnx nx)
    | (with_reducible refine And.intro (by omega) ?_)
    | (with_reducible refine And.intro ?_ ?_)
    | (clear hnx nx; with_reducible apply hnx; clear hnx nx)
    | (clear hnx nx; clear hnx nx; with_reducible apply hnx; clear hnx nx))
    all_goals first
      | (exfalso
         omega)
      | (refine hlp _ (32 - (i + 1)) _ (by omega) ?_ ⟨i + 1, nm, o ++ [x], by omega, rfl, by rw [htk, ho], by simp [hnm], rfl⟩
         rw [List.length_append, List.map_append]
         refine Wk_fr (by simp only [wkb, simprocAttr, List.length_cons, List.length_nil, Nat.zero_add]) ?_
         exact ⟨by simp, by simp [names, hnm]⟩)
  · have hoh : o = h := by rw [ho, List.take_of_length_le (by omega)]
    subst hoh
    have hb1 := isByte_pb o
    have hb2 := unb_pb o
    have htu : List.take o.length (o.map pbyte) = o.map pbyte := List.take_of_length_le (by simp)
    refine W_x (τ := ⟨fr 17 [(3, .list 1 (o.map pbyte)), (1, .ptr N1 0), (4, pint .i64 i)], [(N1, ⟨82, false, 0, o.map pbyte⟩)]⟩) (by
      have hw := Wx_bornH (G := G) (I := []) (N := 17) (d := 3) (L := [(1, .ptr N1 0), (4, pint .i64 i)]) (n := N) (e := 5) (es := 1) (len := o.length) (cells := o.map pbyte) (H := [(N1, ⟨82, false, 0, o.map pbyte⟩)]) (by simp) (by simp) (by simp [frz, frz1, hnm]) (by
        simp only [List.forall_mem_cons, List.not_mem_nil, false_implies, implies_true, and_true]
        exact ⟨by simp [hnm], pb_flat N _⟩)
      rwa [elemsOf_one (by simp), htu] at hw) ?_
    repeat' (first
    | (with_reducible apply W_seq_k; intro nx hnx)
    | (with_reducible first | refine wr 31 ?_)
    | ((with_reducible first | (apply WL_op; intro nx hnx) | refine Ev_out ?_ | refine wc ?_ | (refine pf hnm fun nm hnm => ?_; try simp only [fmb] at hnm) | (refine pm hnm fun nm hnm => ?_; try simp only [fmb] at hnm)); try (simp (maxSteps := 2000000) (disch := omega) only [ev, ↓evp, PV.cells, PV.one, PV.mem?, Value.cells, simprocAttr, hnm, Tryd.tf0, Tryd.tf1, Tryd.tf3, Tryd.tf4, Tryd.tf5, Tryd.tf9, Tryd.tf27, Tryd.tf82, hb1, hb2]))
    | ((with_reducible first | apply W_block | apply W_scope | apply WL_nil | apply W_label | apply W_skip | apply W_exit | apply W_ret) <;> try simp only [kks, simprocAttr])
    | (with_reducible apply pg <;> (intro hc; (try simp only [hcb, simprocAttr, ne_eq, forall_const] at hc); first | (exfalso; omega) | exact absurd trivial hc | skip))
    | (with_reducible apply hnx; clear hnx nx)
    | (with_reducible refine And.intro (by omega) ?_)
    | (with_reducible refine And.intro ?_ ?_)
    | (clear hnx nx; with_reducible apply hnx; clear hnx nx)
    | (clear hnx nx; clear hnx nx; with_reducible apply hnx; clear hnx nx))
    all_goals first
      | exact rfl
      | (exfalso
         omega)
      | (refine hfin _ _ (Fin_ret1 rfl (Sub_nil _) ?_); simp only [cob, simprocAttr]; first | trivial | exact ⟨rfl, by trivial⟩ | (simp; done) | (simp; omega))
set_option maxRecDepth 100000 in
set_option maxHeartbeats 8000000 in
theorem text_c (G : Globs) (h : List UInt8) (hh : h.length = 16) : PCalls Tryd.prog G 74 [.agg (h.map pbyte)] [] (fun res H => res = pstr h ∧ H = []) := by
  have h1 := all_one_byte h
  have hl : (h.map pbyte).length = 16 := by rw [List.length_map, hh]
  (refine PCalls_f Tryd.func74 rfl Tryd.ntmps74 Tryd.results74 (by simp) fun fin hfin => ?_; have hnm : True := trivial; simp only [ev, simprocAttr])
  repeat' (first
    | (with_reducible apply W_seq_k; intro nx hnx)
    | (with_reducible first | refine wr 31 ?_)
    | ((with_reducible first | (apply WL_op; intro nx hnx) | refine Ev_out ?_ | refine wc ?_ | (refine pf hnm fun nm hnm => ?_; try simp only [fmb] at hnm) | (refine pm hnm fun nm hnm => ?_; try simp only [fmb] at hnm)); try (simp (maxSteps := 2000000) (disch := omega) only [ev, ↓evp, PV.cells, PV.one, PV.mem?, Value.cells, simprocAttr, hnm, Tryd.tf0, Tryd.tf1, Tryd.tf3, Tryd.tf4, Tryd.tf5, Tryd.tf9, Tryd.tf27, Tryd.tf37, hl, h1]))
    | ((with_reducible first | apply W_block | apply W_scope | apply WL_nil | apply W_label | apply W_skip | apply W_exit | apply W_ret) <;> try simp only [kks, simprocAttr])
    | (with_reducible apply pg <;> (intro hc; (try simp only [hcb, simprocAttr, ne_eq, forall_const] at hc); first | (exfalso; omega) | exact absurd trivial hc | skip))
    | (with_reducible apply hnx; clear hnx nx)
    | (with_reducible refine And.intro (by omega) ?_)
    | (with_reducible refine And.intro ?_ ?_)
    | (clear hnx nx; with_reducible apply hnx; clear hnx nx)
    | (clear hnx nx; clear hnx nx; with_reducible apply hnx; clear hnx nx))
  refine W_adopt_f 3 5 1 (by simp only [fr_getD_cons, Nat.reduceEqDiff, Nat.reduceLT, ↓reduceIte]) fun D0 hD0 => ?_
  obtain ⟨N1, hN1⟩ : ∃ N, N = nm := ⟨_, rfl⟩
  subst hN1
  have hD : ¬ D0 = N1 := by simpa [names] using hD0
  refine W_loop_k (fun z τ => ∃ (i : Nat) (N : Int) (o : List UInt8), i ≤ 16 ∧ z = 16 - i ∧ o = h.take i ∧ ¬ N = N1 ∧ τ = ⟨fr 17 [(3, .row N 1 o.length), (1, .ptr N1 0), (4, pint .i64 i)], [(N, ⟨5, true, 1, o.map pbyte⟩), (N1, ⟨37, false, 0, h.map pbyte⟩)]⟩) 16
    ⟨fr 17 [(3, .row D0 1 0), (1, .ptr N1 0), (4, pint .i64 (0 : Nat))], [(D0, ⟨5, true, 1, []⟩), (N1, ⟨37, false, 0, h.map pbyte⟩)]⟩ (by
    refine Wk_fr (by simp only [wkb, simprocAttr]) ?_
    exact ⟨by simp, by simpa [names] using hD⟩) ⟨0, D0, [], by omega, by omega, by simp, hD, rfl⟩ ?_
  rintro z τ ⟨i, N, o, hi, rfl, ho, hN, rfl⟩ lp hlp
  clear hnm
  have hnm : ¬ N = N1 ∧ ¬ N1 = N := ⟨hN, fun e => hN e.symm⟩
  have hol : o.length = i := by rw [ho, List.length_take]; omega
  by_cases hik : i < 16
  · obtain ⟨x, hg⟩ : ∃ x, h[i]? = some x := ⟨_, List.getElem?_eq_getElem (show i < h.length by omega)⟩
    have hg2 : h[i]'(by omega) = x := by
      rw [List.getElem?_eq_getElem (by omega)] at hg
      exact Option.some.inj hg
    have htk : h.take (i + 1) = h.take i ++ [x] := by
      rw [List.take_add_one, hg]
      rfl
    repeat' (first
    | (with_reducible apply W_seq_k; intro nx hnx)
    | (with_reducible first | refine wr 31 ?_)
    | ((with_reducible first | (apply WL_op; intro nx hnx) | refine Ev_out ?_ | refine wc ?_ | (refine pf hnm fun nm hnm => ?_; try simp only [fmb] at hnm) | (refine pm hnm fun nm hnm => ?_; try simp only [fmb] at hnm)); try (simp (maxSteps := 2000000) (disch := omega) only [ev, ↓evp, PV.cells, PV.one, PV.mem?, Value.cells, simprocAttr, hnm, Tryd.tf0, Tryd.tf1, Tryd.tf3, Tryd.tf4, Tryd.tf5, Tryd.tf9, Tryd.tf27, Tryd.tf37, hl, hg, hg2]))
    | ((with_reducible first | apply W_block | apply W_scope | apply WL_nil | apply W_label | apply W_skip | apply W_exit | apply W_ret) <;> try simp only [kks, simprocAttr])
    | (with_reducible apply pg <;> (intro hc; (try simp only [hcb, simprocAttr, ne_eq, forall_const] at hc); first | (exfalso; omega) | exact absurd trivial hc | skip))
    | (with_reducible apply hnx; clear hnx nx)
    | (with_reducible refine And.intro (by omega) ?_)
    | (with_reducible refine And.intro ?_ ?_)
    | (clear hnx nx; with_reducible apply hnx; clear hnx nx)
    | (clear hnx nx; clear hnx nx; with_reducible apply hnx; clear hnx nx))
    all_goals first
      | (exfalso
         omega)
      | (refine hlp _ (16 - (i + 1)) _ (by omega) ?_ ⟨i + 1, nm, o ++ [x], by omega, rfl, by rw [htk, ho], by simp [hnm], rfl⟩
         rw [List.length_append, List.map_append]
         refine Wk_fr (by simp only [wkb, simprocAttr, List.length_cons, List.length_nil, Nat.zero_add]) ?_
         exact ⟨by simp, by simp [names, hnm]⟩)
  · have hoh : o = h := by rw [ho, List.take_of_length_le (by omega)]
    subst hoh
    have hb1 := isByte_pb o
    have hb2 := unb_pb o
    have htu : List.take o.length (o.map pbyte) = o.map pbyte := List.take_of_length_le (by simp)
    refine W_x (τ := ⟨fr 17 [(3, .list 1 (o.map pbyte)), (1, .ptr N1 0), (4, pint .i64 i)], [(N1, ⟨37, false, 0, o.map pbyte⟩)]⟩) (by
      have hw := Wx_bornH (G := G) (I := []) (N := 17) (d := 3) (L := [(1, .ptr N1 0), (4, pint .i64 i)]) (n := N) (e := 5) (es := 1) (len := o.length) (cells := o.map pbyte) (H := [(N1, ⟨37, false, 0, o.map pbyte⟩)]) (by simp) (by simp) (by simp [frz, frz1, hnm]) (by
        simp only [List.forall_mem_cons, List.not_mem_nil, false_implies, implies_true, and_true]
        exact ⟨by simp [hnm], pb_flat N _⟩)
      rwa [elemsOf_one (by simp), htu] at hw) ?_
    repeat' (first
    | (with_reducible apply W_seq_k; intro nx hnx)
    | (with_reducible first | refine wr 31 ?_)
    | ((with_reducible first | (apply WL_op; intro nx hnx) | refine Ev_out ?_ | refine wc ?_ | (refine pf hnm fun nm hnm => ?_; try simp only [fmb] at hnm) | (refine pm hnm fun nm hnm => ?_; try simp only [fmb] at hnm)); try (simp (maxSteps := 2000000) (disch := omega) only [ev, ↓evp, PV.cells, PV.one, PV.mem?, Value.cells, simprocAttr, hnm, Tryd.tf0, Tryd.tf1, Tryd.tf3, Tryd.tf4, Tryd.tf5, Tryd.tf9, Tryd.tf27, Tryd.tf37, hb1, hb2]))
    | ((with_reducible first | apply W_block | apply W_scope | apply WL_nil | apply W_label | apply W_skip | apply W_exit | apply W_ret) <;> try simp only [kks, simprocAttr])
    | (with_reducible apply pg <;> (intro hc; (try simp only [hcb, simprocAttr, ne_eq, forall_const] at hc); first | (exfalso; omega) | exact absurd trivial hc | skip))
    | (with_reducible apply hnx; clear hnx nx)
    | (with_reducible refine And.intro (by omega) ?_)
    | (with_reducible refine And.intro ?_ ?_)
    | (clear hnx nx; with_reducible apply hnx; clear hnx nx)
    | (clear hnx nx; clear hnx nx; with_reducible apply hnx; clear hnx nx))
    all_goals first
      | exact rfl
      | (exfalso
         omega)
      | (refine hfin _ _ (Fin_ret1 rfl (Sub_nil _) ?_); simp only [cob, simprocAttr]; first | trivial | exact ⟨rfl, by trivial⟩ | (simp; done) | (simp; omega))
end Go.PM

namespace Go.PM
open Go.Proofs
attribute [local irreducible] W PCalls pcall pcallI WL
def k64 (key : List UInt8) : List UInt8 := if 64 < key.length then sha key else key
def zpad (k : List UInt8) : List UInt8 := k ++ List.replicate (64 - k.length) 0
def macP (k : List UInt8) (w : UInt8) : List UInt8 := (zpad k).map (· ^^^ w)
def mac (key text : List UInt8) : List UInt8 := sha (macP (k64 key) 92 ++ sha (macP (k64 key) 54 ++ text))
theorem k64_len (key : List UInt8) : (k64 key).length ≤ 64 := by
  unfold k64
  split
  · rw [sha_len]
    omega
  · omega
theorem zpad_len (k : List UInt8) (h : k.length ≤ 64) : (zpad k).length = 64 := by
  rw [zpad, List.length_append, List.length_replicate]
  omega
theorem macP_len (k : List UInt8) (w : UInt8) (h : k.length ≤ 64) : (macP k w).length = 64 := by rw [macP, List.length_map, zpad_len k h]
theorem b_xor (x y : UInt8) : bits .xor .u8 (x.toNat : Int) (y.toNat : Int) = ((x ^^^ y).toNat : Int) := by
  have e : ∀ z : UInt8, BitVec.ofInt 8 (z.toNat : Int) = z.toBitVec := fun z => by
    rw [BitVec.ofInt_natCast]
    apply BitVec.eq_of_toNat_eq
    have := z.toNat_lt
    simp
  have h : bits .xor .u8 (x.toNat : Int) (y.toNat : Int) = IntKind.u8.wrap (((BitVec.ofInt 8 (x.toNat : Int) ^^^ BitVec.ofInt 8 (y.toNat : Int)).toNat : Nat) : Int) := rfl
  rw [h, e, e, wr8mod]
  have := (x.toBitVec ^^^ y.toBitVec).isLt
  have h2 : (x ^^^ y).toNat = (x.toBitVec ^^^ y.toBitVec).toNat := rfl
  omega
/-- The first i bytes are turned. -/
def xq (p : List UInt8) (w : UInt8) (i : Nat) : List UInt8 := (p.take i).map (· ^^^ w) ++ p.drop i
theorem xq_len (p : List UInt8) (w : UInt8) (i : Nat) : (xq p w i).length = p.length := by
  rw [xq, List.length_append, List.length_map, List.length_take, List.length_drop]
  omega
theorem xq_zero (p : List UInt8) (w : UInt8) : xq p w 0 = p := by simp [xq]
theorem xq_all (p : List UInt8) (w : UInt8) (i : Nat) (h : p.length ≤ i) : xq p w i = p.map (· ^^^ w) := by
  rw [xq, List.take_of_length_le h, List.drop_of_length_le h, List.append_nil]
theorem xq_get (p : List UInt8) (w : UInt8) (i : Nat) (h : i < p.length) : (xq p w i)[i]? = some p[i] := by
  rw [xq, List.getElem?_append_right (by simp; omega)]
  simp
  rw [show i + (i - min i p.length) = i by omega, List.getElem?_eq_getElem h]
theorem xq_set (p : List UInt8) (w : UInt8) (i : Nat) (h : i < p.length) : List.take i ((xq p w i).map pbyte) ++ [pbyte (p[i] ^^^ w)] ++ List.drop (i + 1) ((xq p w i).map pbyte) = (xq p w (i + 1)).map pbyte := by
  have hl : ((p.take i).map (· ^^^ w)).length = i := by simp; omega
  have e1 : List.take i (xq p w i) = (p.take i).map (· ^^^ w) := by
    rw [xq, List.take_append_of_le_length (by omega), List.take_of_length_le (by omega)]
  have e2 : List.drop (i + 1) (xq p w i) = p.drop (i + 1) := by
    rw [xq, List.drop_append, hl, List.drop_of_length_le (by omega), List.nil_append, show i + 1 - i = 1 by omega, List.drop_drop]
  rw [← List.map_take, ← List.map_drop, e1, e2, xq, List.take_add_one, List.getElem?_eq_getElem h]
  simp only [List.map_append, List.map_cons, List.map_nil, Option.toList_some, List.append_assoc]
set_option maxRecDepth 100000 in
set_option maxHeartbeats 8000000 in
theorem macf_c (G : Globs) (k : List UInt8) (w : UInt8) (hk : k.length ≤ 64) : PCalls Tryd.prog G 84 [pbyte w, .iptr [pstr k] 0] [] (fun res H => res = pstr (macP k w) ∧ H = []) := by
  have hzl := zpad_len k hk
  obtain ⟨p, hp⟩ : ∃ p, p = zpad k := ⟨_, rfl⟩
  have hmp : macP k w = p.map (· ^^^ w) := by rw [hp]; rfl
  have hpl : p.length = 64 := by rw [hp]; exact hzl
  have hcells : List.take (min k.length 64) (bytes k) ++ List.drop (min k.length 64) (List.replicate 64 (pint .u8 0)) = p.map pbyte := by
    rw [Nat.min_eq_left hk, List.take_of_length_le (by rw [bytes_length]; omega), List.drop_replicate, hp, zpad, List.map_append, List.map_replicate]
    rfl
  (refine PCalls_f Tryd.func84 rfl Tryd.ntmps84 Tryd.results84 (by simp) fun fin hfin => ?_; have hnm : True := trivial; simp only [ev, simprocAttr])
  repeat' (first
    | (with_reducible apply W_seq_k; intro nx hnx)
    | (with_reducible first | refine wr 571 ?_ | refine wd (id := 2) 571 1 (.op 0 true (.op 1 true (.op 2 false (.done)))) (by kernel_rfl) ?_)
    | ((with_reducible first | (apply WL_op; intro nx hnx) | refine Ev_out ?_ | refine wc ?_ | (apply popsD_op; intro nx hnx) | (refine popsD_alt ?_ ?_; intro nx hnx) | (refine pf hnm fun nm hnm => ?_; try simp only [fmb] at hnm) | (refine pm hnm fun nm hnm => ?_; try simp only [fmb] at hnm)); try (simp (maxSteps := 2000000) (disch := omega) only [ev, ↓evp, PV.cells, PV.one, PV.mem?, Value.cells, simprocAttr, hnm, Tryd.tf0, Tryd.tf3, Tryd.tf5, Tryd.tf9, Tryd.tf27, Tryd.tf76]))
    | ((with_reducible first | apply W_block | apply W_scope | apply WL_nil | apply W_label | apply W_skip | apply W_exit | apply W_ret | apply popsD_done | exact popsD_stop) <;> try simp only [kks, simprocAttr])
    | (with_reducible apply pg <;> (intro hc; (try simp only [hcb, simprocAttr, ne_eq, forall_const] at hc); first | (exfalso; omega) | exact absurd trivial hc | skip))
    | (with_reducible apply hnx; clear hnx nx)
    | (with_reducible refine And.intro (by omega) ?_)
    | (with_reducible refine And.intro ?_ ?_)
    | (clear hnx nx; with_reducible apply hnx; clear hnx nx)
    | (clear hnx nx; clear hnx nx; with_reducible apply hnx; clear hnx nx))
  refine W_loop_k (fun z τ => ∃ (i : Nat) (u : List UInt8), i ≤ 64 ∧ z = 64 - i ∧ u = xq p w i ∧ τ = ⟨fr 21 [(9, pint .i64 i), (4, .ptr nm 0), (0, pbyte w)], [(nm, ⟨76, false, 0, u.map pbyte⟩)]⟩) 64
    ⟨fr 21 [(9, pint .i64 (0 : Nat)), (4, .ptr nm 0), (0, pbyte w)], [(nm, ⟨76, false, 0, p.map pbyte⟩)]⟩ (by
    refine Wk_fr (by simp only [wkb, simprocAttr]) ?_
    refine ⟨fun x hx => ?_, by simp [names]⟩
    rw [← hcells] at hx
    exact hx) ⟨0, p, by omega, by omega, (xq_zero p w).symm, rfl⟩ ?_
  rintro z τ ⟨i, u, hi, rfl, hu, rfl⟩ lp hlp
  have hul : u.length = 64 := by rw [hu, xq_len, hpl]
  by_cases hi2 : i < 64
  · obtain ⟨x, hx⟩ : ∃ x, x = p[i] := ⟨_, rfl⟩
    have hg := xq_get p w i (by omega)
    have hset := xq_set p w i (by omega)
    rw [← hx] at hg hset
    rw [← hu] at hg hset
    have hg2 : u[i]'(by omega) = x := by
      rw [List.getElem?_eq_getElem (by omega)] at hg
      exact Option.some.inj hg
    have hxw := b_xor x w
    repeat' (first
    | (with_reducible apply W_seq_k; intro nx hnx)
    | (with_reducible first | refine wr 571 ?_ | refine wd (id := 2) 571 1 (.op 0 true (.op 1 true (.op 2 false (.done)))) (by kernel_rfl) ?_)
    | ((with_reducible first | (apply WL_op; intro nx hnx) | refine Ev_out ?_ | refine wc ?_ | (apply popsD_op; intro nx hnx) | (refine popsD_alt ?_ ?_; intro nx hnx) | (refine pf hnm fun nm hnm => ?_; try simp only [fmb] at hnm) | (refine pm hnm fun nm hnm => ?_; try simp only [fmb] at hnm)); try (simp (maxSteps := 2000000) (disch := omega) only [ev, ↓evp, PV.cells, PV.one, PV.mem?, Value.cells, simprocAttr, hnm, Tryd.tf0, Tryd.tf3, Tryd.tf5, Tryd.tf9, Tryd.tf27, Tryd.tf76, hul, hg, hg2, hxw, hset]))
    | ((with_reducible first | apply W_block | apply W_scope | apply WL_nil | apply W_label | apply W_skip | apply W_exit | apply W_ret | apply popsD_done | exact popsD_stop) <;> try simp only [kks, simprocAttr])
    | (with_reducible apply pg <;> (intro hc; (try simp only [hcb, simprocAttr, ne_eq, forall_const] at hc); first | (exfalso; omega) | exact absurd trivial hc | skip))
    | (with_reducible apply hnx; clear hnx nx)
    | (with_reducible refine And.intro (by omega) ?_)
    | (with_reducible refine And.intro ?_ ?_)
    | (clear hnx nx; with_reducible apply hnx; clear hnx nx)
    | (clear hnx nx; clear hnx nx; with_reducible apply hnx; clear hnx nx))
    all_goals first
      | (exfalso
         omega)
      | (refine hlp _ (64 - (i + 1)) _ (by omega) ?_ ⟨i + 1, xq p w (i + 1), by omega, rfl, rfl, rfl⟩
         exact Wk_fr (by simp only [wkb, simprocAttr]) ⟨by simp, by simp [names]⟩)
  · have hi3 : i = 64 := by omega
    subst hi3
    have huf : u = macP k w := by rw [hu, xq_all p w 64 (by omega), hmp]
    have hb1 := isByte_pb u
    have hb2 := unb_pb u
    have htu : List.take 64 (u.map pbyte) = u.map pbyte := List.take_of_length_le (by simp [hul])
    rw [← huf] at hfin
    repeat' (first
    | (with_reducible apply W_seq_k; intro nx hnx)
    | (with_reducible first | refine wr 571 ?_ | refine wd (id := 2) 571 1 (.op 0 true (.op 1 true (.op 2 false (.done)))) (by kernel_rfl) ?_)
    | ((with_reducible first | (apply WL_op; intro nx hnx) | refine Ev_out ?_ | refine wc ?_ | (apply popsD_op; intro nx hnx) | (refine popsD_alt ?_ ?_; intro nx hnx) | (refine pf hnm fun nm hnm => ?_; try simp only [fmb] at hnm) | (refine pm hnm fun nm hnm => ?_; try simp only [fmb] at hnm)); try (simp (maxSteps := 2000000) (disch := omega) only [ev, ↓evp, PV.cells, PV.one, PV.mem?, Value.cells, simprocAttr, hnm, Tryd.tf0, Tryd.tf3, Tryd.tf5, Tryd.tf9, Tryd.tf27, Tryd.tf76, hul, hb1, hb2, htu]))
    | ((with_reducible first | apply W_block | apply W_scope | apply WL_nil | apply W_label | apply W_skip | apply W_exit | apply W_ret | apply popsD_done | exact popsD_stop) <;> try simp only [kks, simprocAttr])
    | (with_reducible apply pg <;> (intro hc; (try simp only [hcb, simprocAttr, ne_eq, forall_const] at hc); first | (exfalso; omega) | exact absurd trivial hc | skip))
    | (with_reducible apply hnx; clear hnx nx)
    | (with_reducible refine And.intro (by omega) ?_)
    | (with_reducible refine And.intro ?_ ?_)
    | (clear hnx nx; with_reducible apply hnx; clear hnx nx)
    | (clear hnx nx; clear hnx nx; with_reducible apply hnx; clear hnx nx))
    all_goals first
      | exact rfl
      | (exfalso
         omega)
      | (refine hfin _ _ (Fin_ret1 rfl (Sub_nil _) ?_); simp only [cob, simprocAttr]; first | trivial | exact ⟨rfl, by trivial⟩ | (simp; done) | (simp; omega))
end Go.PM

namespace Go.PM
open Go.Proofs
attribute [local irreducible] W PCalls pcall pcallI WL
theorem mac_lend {G : Globs} {σ : PState} {q : Bool} {d : Option Tmp} {K : PState → Prop} {x : PV} (n : Int) (k : List UInt8) (w : UInt8) (hx : x = pbyte w) (hl : look σ.heap n = some ⟨9, false, 0, [pstr k]⟩) (hk : k.length ≤ 64)
    (h : K (PState.put σ d (pstr (macP k w)))) : @pcallI q Tryd.prog G σ d 84 [x, .ptr n 0] ⟨K⟩ := by
  subst hx
  refine pcall_lend n ⟨9, false, 0, [pstr k]⟩ hl (R := fun res H => res = pstr (macP k w) ∧ H = []) ?_ ?_
  · simp only [List.map_cons, List.map_nil, frz1, ↓reduceIte]
    exact macf_c G k w hk
  · rintro _ _ ⟨rfl, rfl⟩
    exact ⟨rfl, .val _, h⟩
set_option maxRecDepth 100000 in
set_option maxHeartbeats 16000000 in
theorem mac_c (G : Globs) (hG : G 0 = .iptr (KS.map pw) 0) (key text : List UInt8) (h1 : key.length ≤ 4294950000) (h2 : text.length ≤ 4294950000) : PCalls Tryd.prog G 69 [pstr key, pstr text] [] (fun res H => res = pstr (mac key text) ∧ H = []) := by
  have hk := k64_len key
  have hmac : mac key text = sha (macP (k64 key) 92 ++ sha (macP (k64 key) 54 ++ text)) := rfl
  have hkb : bytes key = key.map pbyte := rfl
  have hs := hsum_c G hG key (by omega)
  have hk64 : k64 key = if 64 < key.length then sha key else key := rfl
  obtain ⟨k, hkd⟩ : ∃ k, k = k64 key := ⟨_, rfl⟩
  rw [← hkd] at hk hmac hk64
  have e1 := macP_len k 54 hk
  have e2 := macP_len k 92 hk
  obtain ⟨s, hsd⟩ : ∃ s, s = sha (macP k 54 ++ text) := ⟨_, rfl⟩
  have e3 : s.length = 32 := by rw [hsd, sha_len]
  have a1 := add_c G hG [] (macP k 54) (by simp only [List.length_nil]; omega)
  have a2 := add_c G hG (macP k 54) text (by omega)
  have a3 := ssum_c G hG (macP k 54 ++ text) (by rw [List.length_append]; omega)
  have b1 := add_c G hG [] (macP k 92) (by simp only [List.length_nil]; omega)
  have b2 := add_c G hG (macP k 92) s (by omega)
  have b3 := ssum_c G hG (macP k 92 ++ s) (by rw [List.length_append]; omega)
  rw [List.nil_append] at a1 b1
  rw [← hsd] at a3 hmac
  have o1 := all_one_byte s
  have l1 : (s.map pbyte).length = 32 := by rw [List.length_map, e3]
  have t1 : List.take 32 (s.map pbyte) = s.map pbyte := List.take_of_length_le (by omega)
  have i1 := isByte_pb s
  have u1 := unb_pb s
  obtain ⟨f, hfd⟩ : ∃ f, f = sha (macP k 92 ++ s) := ⟨_, rfl⟩
  have e4 : f.length = 32 := by rw [hfd, sha_len]
  rw [← hfd] at b3 hmac
  have o2 := all_one_byte f
  have l2 : (f.map pbyte).length = 32 := by rw [List.length_map, e4]
  have t2 : List.take 32 (f.map pbyte) = f.map pbyte := List.take_of_length_le (by omega)
  have i2 := isByte_pb f
  have u2 := unb_pb f
  rw [hmac]
  have o3 := all_one_byte (sha key)
  have e5 := sha_len key
  have l3 : ((sha key).map pbyte).length = 32 := by rw [List.length_map, e5]
  have t3 : List.take 32 ((sha key).map pbyte) = (sha key).map pbyte := List.take_of_length_le (by omega)
  have i3 := isByte_pb (sha key)
  have u3 := unb_pb (sha key)
  by_cases hlen : 64 < key.length
  · rw [if_pos hlen] at hk64
    subst hk64
    (refine PCalls_f Tryd.func69 rfl Tryd.ntmps69 Tryd.results69 (by simp) fun fin hfin => ?_; have hnm : True := trivial; simp only [ev, simprocAttr])
    repeat' (first
    | (with_reducible apply W_seq_k; intro nx hnx)
    | (with_reducible first | refine wr 503 ?_ | refine wd (id := 6) 503 3 (.op 1 true (.op 4 true (.op 5 true (.alt 0 true (.alt 2 true (.alt 3 true (.alt 6 false (.alt 7 false (.op 8 true (.op 9 false (.done))) (.alt 8 true (.op 7 false (.op 9 false (.done))) .stop)) (.alt 8 true (.op 6 false (.op 7 false (.op 9 false (.done)))) .stop)) (.alt 8 true (.op 3 true (.op 6 false (.op 7 false (.op 9 false (.done))))) .stop)) (.alt 8 true (.op 2 true (.op 3 true (.op 6 false (.op 7 false (.op 9 false (.done)))))) .stop)) (.alt 8 true (.op 0 true (.op 2 true (.op 3 true (.op 6 false (.op 7 false (.op 9 false (.done))))))) .stop))))) (by kernel_rfl) ?_)
    | ((with_reducible first | (apply WL_op; intro nx hnx) | refine Ev_out ?_ | refine wc ?_ | (apply popsD_op; intro nx hnx) | (refine popsD_alt ?_ ?_; intro nx hnx) | (refine pf hnm fun nm hnm => ?_; try simp only [fmb] at hnm) | (refine pm hnm fun nm hnm => ?_; try simp only [fmb] at hnm)); try (simp (maxSteps := 2000000) (disch := omega) only [ev, ↓evp, PV.cells, PV.one, PV.mem?, Value.cells, simprocAttr, hnm, Tryd.tf0, Tryd.tf3, Tryd.tf4, Tryd.tf5, Tryd.tf9, Tryd.tf27, Tryd.tf34, Tryd.tf79, Tryd.tf82, Tryd.call35, Tryd.call36, Tryd.call37, Tryd.call83, hkb, o3, l3, t3, i3, u3, e5, o1, l1, t1, i1, u1, o2, l2, t2, i2, u2, e3, e4]))
    | ((with_reducible first | apply W_block | apply W_scope | apply WL_nil | apply W_label | apply W_skip | apply W_exit | apply W_ret | apply popsD_done | exact popsD_stop) <;> try simp only [kks, simprocAttr])
    | (with_reducible apply pg <;> (intro hc; (try simp only [hcb, simprocAttr, ne_eq, forall_const] at hc); first | (exfalso; omega) | exact absurd trivial hc | skip))
    | (with_reducible apply hnx; clear hnx nx)
    | (with_reducible refine And.intro (by omega) ?_)
    | (with_reducible refine And.intro ?_ ?_)
    | (with_reducible refine pe (hs) ?_)
    | (with_reducible refine pe (begin_c G) ?_)
    | (with_reducible refine pe (a1) ?_)
    | (with_reducible refine pe (a2) ?_)
    | (with_reducible refine pe (a3) ?_)
    | (with_reducible refine pe (b1) ?_)
    | (with_reducible refine pe (b2) ?_)
    | (with_reducible refine pe (b3) ?_)
    | (refine mac_lend _ (sha key) 54 rfl (by simp [look, hnm]) hk ?_; refine Ev_in ?_)
    | (refine mac_lend _ (sha key) 92 rfl (by simp [look, hnm]) hk ?_; refine Ev_in ?_)
    | (clear hnx nx; with_reducible apply hnx; clear hnx nx)
    | (clear hnx nx; clear hnx nx; with_reducible apply hnx; clear hnx nx))
    all_goals first
      | exact rfl
      | (exfalso
         omega)
      | (refine hfin _ _ (Fin_ret1 rfl (Sub_nil _) ?_); simp only [cob, simprocAttr]; first | trivial | exact ⟨rfl, by trivial⟩ | (simp; done) | (simp; omega))
  · rw [if_neg hlen] at hk64
    subst hk64
    (refine PCalls_f Tryd.func69 rfl Tryd.ntmps69 Tryd.results69 (by simp) fun fin hfin => ?_; have hnm : True := trivial; simp only [ev, simprocAttr])
    repeat' (first
    | (with_reducible apply W_seq_k; intro nx hnx)
    | (with_reducible first | refine wr 503 ?_ | refine wd (id := 6) 503 3 (.op 1 true (.op 4 true (.op 5 true (.alt 0 true (.alt 2 true (.alt 3 true (.alt 6 false (.alt 7 false (.op 8 true (.op 9 false (.done))) (.alt 8 true (.op 7 false (.op 9 false (.done))) .stop)) (.alt 8 true (.op 6 false (.op 7 false (.op 9 false (.done)))) .stop)) (.alt 8 true (.op 3 true (.op 6 false (.op 7 false (.op 9 false (.done))))) .stop)) (.alt 8 true (.op 2 true (.op 3 true (.op 6 false (.op 7 false (.op 9 false (.done)))))) .stop)) (.alt 8 true (.op 0 true (.op 2 true (.op 3 true (.op 6 false (.op 7 false (.op 9 false (.done))))))) .stop))))) (by kernel_rfl) ?_)
    | ((with_reducible first | (apply WL_op; intro nx hnx) | refine Ev_out ?_ | refine wc ?_ | (apply popsD_op; intro nx hnx) | (refine popsD_alt ?_ ?_; intro nx hnx) | (refine pf hnm fun nm hnm => ?_; try simp only [fmb] at hnm) | (refine pm hnm fun nm hnm => ?_; try simp only [fmb] at hnm)); try (simp (maxSteps := 2000000) (disch := omega) only [ev, ↓evp, PV.cells, PV.one, PV.mem?, Value.cells, simprocAttr, hnm, Tryd.tf0, Tryd.tf3, Tryd.tf4, Tryd.tf5, Tryd.tf9, Tryd.tf27, Tryd.tf34, Tryd.tf79, Tryd.tf82, Tryd.call35, Tryd.call36, Tryd.call37, Tryd.call83, hkb, o1, l1, t1, i1, u1, o2, l2, t2, i2, u2, e3, e4]))
    | ((with_reducible first | apply W_block | apply W_scope | apply WL_nil | apply W_label | apply W_skip | apply W_exit | apply W_ret | apply popsD_done | exact popsD_stop) <;> try simp only [kks, simprocAttr])
    | (with_reducible apply pg <;> (intro hc; (try simp only [hcb, simprocAttr, ne_eq, forall_const] at hc); first | (exfalso; omega) | exact absurd trivial hc | skip))
    | (with_reducible apply hnx; clear hnx nx)
    | (with_reducible refine And.intro (by omega) ?_)
    | (with_reducible refine And.intro ?_ ?_)
    | (with_reducible refine pe (begin_c G) ?_)
    | (with_reducible refine pe (a1) ?_)
    | (with_reducible refine pe (a2) ?_)
    | (with_reducible refine pe (a3) ?_)
    | (with_reducible refine pe (b1) ?_)
    | (with_reducible refine pe (b2) ?_)
    | (with_reducible refine pe (b3) ?_)
    | (refine mac_lend _ k 54 rfl (by simp [look, hnm]) hk ?_; refine Ev_in ?_)
    | (refine mac_lend _ k 92 rfl (by simp [look, hnm]) hk ?_; refine Ev_in ?_)
    | (clear hnx nx; with_reducible apply hnx; clear hnx nx)
    | (clear hnx nx; clear hnx nx; with_reducible apply hnx; clear hnx nx))
    all_goals first
      | exact rfl
      | (exfalso
         omega)
      | (refine hfin _ _ (Fin_ret1 rfl (Sub_nil _) ?_); simp only [cob, simprocAttr]; first | trivial | exact ⟨rfl, by trivial⟩ | (simp; done) | (simp; omega))
end Go.PM

namespace Go.PM
open Go.Proofs
attribute [local irreducible] W PCalls pcall pcallI WL
theorem macP_get (k : List UInt8) (w : UInt8) (i : Nat) (hk : k.length ≤ 64) (hi : i < 64) : (macP k w).take (i + 1) = (macP k w).take i ++ [(if i < k.length then k.getD i 0 else 0) ^^^ w] := by
  rw [List.take_add_one]
  congr 1
  rw [macP, List.getElem?_map, zpad]
  by_cases h : i < k.length
  · rw [List.getElem?_append_left h, List.getElem?_eq_getElem h, if_pos h, List.getD_eq_getElem?_getD, List.getElem?_eq_getElem h]
    rfl
  · rw [List.getElem?_append_right (by omega), List.getElem?_replicate, if_pos (by omega), if_neg h]
    rfl
set_option maxRecDepth 100000 in
set_option maxHeartbeats 16000000 in
theorem padKey_r (G : Globs) (hG : G 1 = .iptr (KS.map pw) 0) (key : List UInt8) (w : UInt8) (h1 : key.length ≤ 4294950000) : PCalls Tryd.prog G 93 [pstr key, pbyte w] [] (RowB (macP (k64 key) w)) := by
  have hk := k64_len key
  have hkb : bytes key = key.map pbyte := rfl
  have hs := rsum_c G hG key (by omega)
  have hb := b32_c G (sha key) (sha_len key)
  have hk64 : k64 key = if 64 < key.length then sha key else key := rfl
  have hl64 : (macP (k64 key) w).length = 64 := macP_len _ _ hk
  obtain ⟨k, hkd⟩ : ∃ k, k = k64 key := ⟨_, rfl⟩
  have e5 := sha_len key
  rw [← hkd] at hk hk64 hl64 ⊢
  (refine PCalls_f Tryd.func93 rfl Tryd.ntmps93 Tryd.results93 (by simp) fun fin hfin => ?_; have hnm : True := trivial; simp only [ev, simprocAttr])
  repeat' (first
    | (with_reducible apply W_seq_k; intro nx hnx)
    | (with_reducible first | refine wr 499 ?_)
    | ((with_reducible first | (apply WL_op; intro nx hnx) | refine Ev_out ?_ | refine wc ?_ | (refine pf hnm fun nm hnm => ?_; try simp only [fmb] at hnm) | (refine pm hnm fun nm hnm => ?_; try simp only [fmb] at hnm)); try (simp (maxSteps := 2000000) (disch := omega) only [ev, ↓evp, PV.cells, PV.one, PV.mem?, Value.cells, simprocAttr, hnm, Tryd.tf1, Tryd.tf3, Tryd.tf4, Tryd.tf5, Tryd.tf9, Tryd.tf27, Tryd.tf82, Tryd.call90, Tryd.call94, hkb]))
    | ((with_reducible first | apply W_block | apply W_scope | apply WL_nil | apply W_label | apply W_skip | apply W_exit | apply W_ret) <;> try simp only [kks, simprocAttr])
    | (with_reducible apply pg <;> (intro hc; (try simp only [hcb, simprocAttr, ne_eq, forall_const] at hc); first | (exfalso; omega) | exact absurd trivial hc | skip))
    | (with_reducible apply hnx; clear hnx nx)
    | (with_reducible refine And.intro (by omega) ?_)
    | (with_reducible refine And.intro ?_ ?_)
    | (with_reducible refine pe (hs) ?_)
    | (with_reducible refine pe (hb) ?_)
    | (clear hnx nx; with_reducible apply hnx; clear hnx nx)
    | (clear hnx nx; clear hnx nx; with_reducible apply hnx; clear hnx nx))
  all_goals first
    | exact rfl
    | (exfalso
       omega)
    | skip
  all_goals
    have hcase : (64 < key.length ∧ sha key = k) ∨ (¬ 64 < key.length ∧ key = k) := by
      by_cases hl : 64 < key.length
      · exact .inl ⟨hl, by rw [hk64, if_pos hl]⟩
      · exact .inr ⟨hl, by rw [hk64, if_neg hl]⟩
    refine W_adopt_f 6 5 1 (by simp only [fr_getD_cons, Nat.reduceEqDiff, Nat.reduceLT, ↓reduceIte]) fun D0 hD0 => ?_
    refine W_loop_k (fun z τ => ∃ (i : Nat) (N : Int) (o : List UInt8), i ≤ 64 ∧ z = 64 - i ∧ o = (macP k w).take i ∧ τ = ⟨fr 35 [(6, .row N 1 o.length), (5, pstr k), (1, pbyte w), (7, pint .i64 i)], [(N, ⟨5, true, 1, o.map pbyte⟩)]⟩) 64
      ⟨fr 35 [(6, .row D0 1 0), (5, pstr k), (1, pbyte w), (7, pint .i64 (0 : Nat))], [(D0, ⟨5, true, 1, []⟩)]⟩ (by
      rcases hcase with ⟨h, e⟩ | ⟨h, e⟩
      · first
        | (exfalso
           omega)
        | (rw [e]
           exact Wk_fr (by simp only [wkb, simprocAttr]) ⟨by simp, by simp [names]⟩)
      · first
        | (exfalso
           omega)
        | (rw [e]
           exact Wk_fr (by simp only [wkb, simprocAttr]) ⟨by simp, by simp [names]⟩)) ⟨0, D0, [], by omega, by omega, by simp, rfl⟩ ?_
    rintro z τ ⟨i, N, o, hi, rfl, ho, rfl⟩ lp hlp
    have hol : o.length = i := by rw [ho, List.length_take]; omega
    by_cases hik : i < 64
    · have htk := macP_get k w i hk hik
      obtain ⟨x, hx⟩ : ∃ x, x = (if i < k.length then k.getD i 0 else 0) := ⟨_, rfl⟩
      rw [← hx] at htk
      have hxw := b_xor x w
      have hx0 : ¬ i < k.length → pint .u8 0 = pbyte x := fun h => by rw [hx, if_neg h]; rfl
      have hx1 : i < k.length → k.getD i 0 = x := fun h => by rw [hx, if_pos h]
      have hz0 : ¬ i < k.length → bits .xor .u8 0 (w.toNat : Int) = ((x ^^^ w).toNat : Int) := fun h => by
        rw [← hxw, hx, if_neg h]
        rfl
      clear hx hcase
      repeat' (first
    | (with_reducible apply W_seq_k; intro nx hnx)
    | (with_reducible first | refine wr 499 ?_)
    | ((with_reducible first | (apply WL_op; intro nx hnx) | refine Ev_out ?_ | refine wc ?_ | (refine pf hnm fun nm hnm => ?_; try simp only [fmb] at hnm) | (refine pm hnm fun nm hnm => ?_; try simp only [fmb] at hnm)); try (simp (maxSteps := 2000000) (disch := omega) only [ev, ↓evp, PV.cells, PV.one, PV.mem?, Value.cells, simprocAttr, hnm, Tryd.tf1, Tryd.tf3, Tryd.tf4, Tryd.tf5, Tryd.tf9, Tryd.tf27, Tryd.tf82, Tryd.call90, Tryd.call94, hx1, hxw, hz0]))
    | ((with_reducible first | apply W_block | apply W_scope | apply WL_nil | apply W_label | apply W_skip | apply W_exit | apply W_ret) <;> try simp only [kks, simprocAttr])
    | (with_reducible apply pg <;> (intro hc; (try simp only [hcb, simprocAttr, ne_eq, forall_const] at hc); first | (exfalso; omega) | exact absurd trivial hc | skip))
    | (with_reducible apply hnx; clear hnx nx)
    | (with_reducible refine And.intro (by omega) ?_)
    | (with_reducible refine And.intro ?_ ?_)
    | (clear hnx nx; with_reducible apply hnx; clear hnx nx)
    | (clear hnx nx; clear hnx nx; with_reducible apply hnx; clear hnx nx))
      all_goals first
        | (exfalso
           omega)
        | skip
      all_goals
        refine hlp _ (64 - (i + 1)) _ (by omega) ?_ ⟨i + 1, nm, o ++ [x ^^^ w], by omega, rfl, by rw [htk, ho], rfl⟩
        rw [List.length_append, List.map_append]
        exact Wk_fr (by simp only [wkb, simprocAttr, List.length_cons, List.length_nil, Nat.zero_add]) ⟨by simp, by simp [names]⟩
    · have hom : o = macP k w := by rw [ho, List.take_of_length_le (by omega)]
      rw [← hom] at hfin
      repeat' (first
    | (with_reducible apply W_seq_k; intro nx hnx)
    | (with_reducible first | refine wr 499 ?_)
    | ((with_reducible first | (apply WL_op; intro nx hnx) | refine Ev_out ?_ | refine wc ?_ | (refine pf hnm fun nm hnm => ?_; try simp only [fmb] at hnm) | (refine pm hnm fun nm hnm => ?_; try simp only [fmb] at hnm)); try (simp (maxSteps := 2000000) (disch := omega) only [ev, ↓evp, PV.cells, PV.one, PV.mem?, Value.cells, simprocAttr, hnm, Tryd.tf1, Tryd.tf3, Tryd.tf4, Tryd.tf5, Tryd.tf9, Tryd.tf27, Tryd.tf82, Tryd.call90, Tryd.call94]))
    | ((with_reducible first | apply W_block | apply W_scope | apply WL_nil | apply W_label | apply W_skip | apply W_exit | apply W_ret) <;> try simp only [kks, simprocAttr])
    | (with_reducible apply pg <;> (intro hc; (try simp only [hcb, simprocAttr, ne_eq, forall_const] at hc); first | (exfalso; omega) | exact absurd trivial hc | skip))
    | (with_reducible apply hnx; clear hnx nx)
    | (with_reducible refine And.intro (by omega) ?_)
    | (with_reducible refine And.intro ?_ ?_)
    | (clear hnx nx; with_reducible apply hnx; clear hnx nx)
    | (clear hnx nx; clear hnx nx; with_reducible apply hnx; clear hnx nx))
      all_goals first
        | (exfalso
           omega)
        | skip
      refine hfin _ _ (Fin_ret1 rfl (Sub_refl (by simp [names])) ?_); simp only [cob, simprocAttr]
      exact ⟨N, rfl, rfl⟩
set_option maxRecDepth 100000 in
set_option maxHeartbeats 16000000 in
theorem rmac_c (G : Globs) (hG : G 1 = .iptr (KS.map pw) 0) (key text : List UInt8) (h1 : key.length ≤ 4294950000) (h2 : text.length ≤ 4294950000) : PCalls Tryd.prog G 89 [pstr key, pstr text] [] (fun res H => res = pstr (mac key text) ∧ H = []) := by
  have hk := k64_len key
  have l1 := macP_len (k64 key) 54 hk
  have l2 := macP_len (k64 key) 92 hk
  have p1 : PCalls Tryd.prog G 93 [pstr key, pint .u8 54] [] (RowB (macP (k64 key) 54)) := padKey_r G hG key 54 h1
  have p2 : PCalls Tryd.prog G 93 [pstr key, pint .u8 92] [] (RowB (macP (k64 key) 92)) := padKey_r G hG key 92 h1
  have hmac : mac key text = sha (macP (k64 key) 92 ++ sha (macP (k64 key) 54 ++ text)) := rfl
  generalize macP (k64 key) 54 = m1 at *
  generalize macP (k64 key) 92 = m2 at *
  have s1 := rsum_c G hG (m1 ++ text) (by rw [List.length_append]; omega)
  rw [List.map_append] at s1
  have l3 := sha_len (m1 ++ text)
  have c1 := b32_c G _ l3
  generalize sha (m1 ++ text) = s at *
  have s2 := rsum_c G hG (m2 ++ s) (by rw [List.length_append]; omega)
  rw [List.map_append] at s2
  have l4 := sha_len (m2 ++ s)
  have c2 := b32_c G _ l4
  generalize sha (m2 ++ s) = f at *
  rw [hmac]
  have b1 : bytes text = text.map pbyte := rfl
  have b2 : bytes s = s.map pbyte := rfl
  have k1 : List.take (m1.length + text.length) (m1.map pbyte ++ text.map pbyte) = m1.map pbyte ++ text.map pbyte := List.take_of_length_le (by simp)
  have k2 : List.take (m2.length + s.length) (m2.map pbyte ++ s.map pbyte) = m2.map pbyte ++ s.map pbyte := List.take_of_length_le (by simp)
  (refine PCalls_f Tryd.func89 rfl Tryd.ntmps89 Tryd.results89 (by simp) fun fin hfin => ?_; have hnm : True := trivial; simp only [ev, simprocAttr])
  repeat' (first
    | (with_reducible apply W_seq_k; intro nx hnx)
    | (with_reducible first | refine wr 115 ?_)
    | ((with_reducible first | (apply WL_op; intro nx hnx) | refine Ev_out ?_ | refine wc ?_ | (refine pf hnm fun nm hnm => ?_; try simp only [fmb] at hnm) | (refine pm hnm fun nm hnm => ?_; try simp only [fmb] at hnm)); try (simp (maxSteps := 2000000) (disch := omega) only [ev, ↓evp, PV.cells, PV.one, PV.mem?, Value.cells, simprocAttr, hnm, Tryd.tf5, Tryd.tf9, Tryd.tf27, Tryd.tf82, Tryd.call90, Tryd.call93, Tryd.call94]))
    | ((with_reducible first | apply W_block | apply W_scope | apply WL_nil | apply W_label | apply W_skip | apply W_exit | apply W_ret) <;> try simp only [kks, simprocAttr])
    | (with_reducible apply hnx; clear hnx nx)
    | (with_reducible refine And.intro (by omega) ?_)
    | (with_reducible refine And.intro ?_ ?_)
    | (clear hnx nx; with_reducible apply hnx; clear hnx nx)
    | (clear hnx nx; clear hnx nx; with_reducible apply hnx; clear hnx nx))
  refine pcall_k p1 ?_
  rintro _ _ ⟨N1, rfl, rfl⟩ -
  refine Ev_in ?_
  repeat' (first
    | (with_reducible apply W_seq_k; intro nx hnx)
    | (with_reducible first | refine wr 115 ?_)
    | ((with_reducible first | (apply WL_op; intro nx hnx) | refine Ev_out ?_ | refine wc ?_ | (refine pf hnm fun nm hnm => ?_; try simp only [fmb] at hnm) | (refine pm hnm fun nm hnm => ?_; try simp only [fmb] at hnm)); try (simp (maxSteps := 2000000) (disch := omega) only [ev, ↓evp, PV.cells, PV.one, PV.mem?, Value.cells, simprocAttr, hnm, Tryd.tf5, Tryd.tf9, Tryd.tf27, Tryd.tf82, Tryd.call90, Tryd.call93, Tryd.call94, flat_pb, b1, b2, bytes_length]))
    | ((with_reducible first | apply W_block | apply W_scope | apply WL_nil | apply W_label | apply W_skip | apply W_exit | apply W_ret) <;> try simp only [kks, simprocAttr])
    | (with_reducible apply hnx; clear hnx nx)
    | (with_reducible refine And.intro (by omega) ?_)
    | (with_reducible refine And.intro ?_ ?_)
    | (clear hnx nx; with_reducible apply hnx; clear hnx nx)
    | (clear hnx nx; clear hnx nx; with_reducible apply hnx; clear hnx nx))
  all_goals first
    | exact rfl
    | (exfalso
       omega)
    | skip
  obtain ⟨M, hM⟩ : ∃ M, M = nm := ⟨_, rfl⟩
  subst hM
  refine pcall_k p2 ?_
  rintro _ _ ⟨N2, rfl, rfl⟩ hd
  have hd2 : ¬ N2 = M := by simpa [names] using hd
  clear hnm
  have hnm : ¬ N2 = M ∧ ¬ M = N2 := ⟨hd2, fun e => hd2 e.symm⟩
  refine Ev_in ?_
  repeat' (first
    | (with_reducible apply W_seq_k; intro nx hnx)
    | (with_reducible first | refine wr 115 ?_)
    | ((with_reducible first | (apply WL_op; intro nx hnx) | refine Ev_out ?_ | refine wc ?_ | (refine pf hnm fun nm hnm => ?_; try simp only [fmb] at hnm) | (refine pm hnm fun nm hnm => ?_; try simp only [fmb] at hnm)); try (simp (maxSteps := 2000000) (disch := omega) only [ev, ↓evp, PV.cells, PV.one, PV.mem?, Value.cells, simprocAttr, hnm, Tryd.tf5, Tryd.tf9, Tryd.tf27, Tryd.tf82, Tryd.call90, Tryd.call93, Tryd.call94]))
    | ((with_reducible first | apply W_block | apply W_scope | apply WL_nil | apply W_label | apply W_skip | apply W_exit | apply W_ret) <;> try simp only [kks, simprocAttr])
    | (with_reducible apply hnx; clear hnx nx)
    | (with_reducible refine And.intro (by omega) ?_)
    | (with_reducible refine And.intro ?_ ?_)
    | (clear hnx nx; with_reducible apply hnx; clear hnx nx)
    | (clear hnx nx; clear hnx nx; with_reducible apply hnx; clear hnx nx))
  refine pcall_lend M ⟨5, true, 1, m1.map pbyte ++ text.map pbyte⟩ (by simp [look, hnm]) (R := fun res H => res = .agg (s.map pbyte) ∧ H = []) ?_ ?_
  · simp only [List.map_cons, List.map_nil, frz1, ↓reduceIte, List.length_append, List.length_map, Nat.mul_one, Nat.le_refl, Nat.zero_lt_one, and_self]
    rw [elemsOf_one (by simp), k1]
    exact s1
  · rintro _ _ ⟨rfl, rfl⟩
    refine ⟨rfl, Flat_all (by
      intro c hc
      obtain ⟨w, _, rfl⟩ := List.mem_map.1 hc
      exact ⟨_, rfl⟩), ?_⟩
    refine Ev_in ?_
    repeat' (first
    | (with_reducible apply W_seq_k; intro nx hnx)
    | (with_reducible first | refine wr 115 ?_)
    | ((with_reducible first | (apply WL_op; intro nx hnx) | refine Ev_out ?_ | refine wc ?_ | (refine pf hnm fun nm hnm => ?_; try simp only [fmb] at hnm) | (refine pm hnm fun nm hnm => ?_; try simp only [fmb] at hnm)); try (simp (maxSteps := 2000000) (disch := omega) only [ev, ↓evp, PV.cells, PV.one, PV.mem?, Value.cells, simprocAttr, hnm, Tryd.tf5, Tryd.tf9, Tryd.tf27, Tryd.tf82, Tryd.call90, Tryd.call93, Tryd.call94, flat_pb, b1, b2, bytes_length]))
    | ((with_reducible first | apply W_block | apply W_scope | apply WL_nil | apply W_label | apply W_skip | apply W_exit | apply W_ret) <;> try simp only [kks, simprocAttr])
    | (with_reducible apply hnx; clear hnx nx)
    | (with_reducible refine And.intro (by omega) ?_)
    | (with_reducible refine And.intro ?_ ?_)
    | (with_reducible refine pe (c1) ?_)
    | (clear hnx nx; with_reducible apply hnx; clear hnx nx)
    | (clear hnx nx; clear hnx nx; with_reducible apply hnx; clear hnx nx))
    all_goals first
      | exact rfl
      | (exfalso
         omega)
      | skip
    obtain ⟨M2, hM2⟩ : ∃ M, M = nm := ⟨_, rfl⟩
    subst hM2
    refine pcall_lend M2 ⟨5, true, 1, m2.map pbyte ++ s.map pbyte⟩ (by simp [look, hnm]) (R := fun res H => res = .agg (f.map pbyte) ∧ H = []) ?_ ?_
    · simp only [List.map_cons, List.map_nil, frz1, ↓reduceIte, List.length_append, List.length_map, Nat.mul_one, Nat.le_refl, Nat.zero_lt_one, and_self]
      rw [elemsOf_one (by simp), k2]
      exact s2
    · rintro _ _ ⟨rfl, rfl⟩
      refine ⟨rfl, Flat_all (by
        intro c hc
        obtain ⟨w, _, rfl⟩ := List.mem_map.1 hc
        exact ⟨_, rfl⟩), ?_⟩
      refine Ev_in ?_
      repeat' (first
    | (with_reducible apply W_seq_k; intro nx hnx)
    | (with_reducible first | refine wr 115 ?_)
    | ((with_reducible first | (apply WL_op; intro nx hnx) | refine Ev_out ?_ | refine wc ?_ | (refine pf hnm fun nm hnm => ?_; try simp only [fmb] at hnm) | (refine pm hnm fun nm hnm => ?_; try simp only [fmb] at hnm)); try (simp (maxSteps := 2000000) (disch := omega) only [ev, ↓evp, PV.cells, PV.one, PV.mem?, Value.cells, simprocAttr, hnm, Tryd.tf5, Tryd.tf9, Tryd.tf27, Tryd.tf82, Tryd.call90, Tryd.call93, Tryd.call94, flat_pb]))
    | ((with_reducible first | apply W_block | apply W_scope | apply WL_nil | apply W_label | apply W_skip | apply W_exit | apply W_ret) <;> try simp only [kks, simprocAttr])
    | (with_reducible apply hnx; clear hnx nx)
    | (with_reducible refine And.intro (by omega) ?_)
    | (with_reducible refine And.intro ?_ ?_)
    | (with_reducible refine pe (c2) ?_)
    | (clear hnx nx; with_reducible apply hnx; clear hnx nx)
    | (clear hnx nx; clear hnx nx; with_reducible apply hnx; clear hnx nx))
      all_goals first
        | exact rfl
        | (exfalso
           omega)
        | (refine hfin _ _ (Fin_ret1 rfl (Sub_nil _) ?_); simp only [cob, simprocAttr]; first | trivial | exact ⟨rfl, by trivial⟩ | (simp; done) | (simp; omega))
end Go.PM

namespace Go.PM
open Go.Proofs
attribute [local irreducible] W PCalls pcall pcallI WL
def tagB (tag : Int) : UInt8 := UInt8.ofNat (tag % 256).toNat
def ofIn (tag : Int) (parts : List (List UInt8)) : List UInt8 := tagB tag :: parts.flatMap bytesB
def ofH (tag : Int) (parts : List (List UInt8)) : List UInt8 := (sha (ofIn tag parts)).take 16
theorem ofH_len (tag : Int) (parts : List (List UInt8)) : (ofH tag parts).length = 16 := by rw [ofH, List.length_take, sha_len]; rfl
theorem tagB_wrap (tag : Int) : IntKind.u8.wrap tag = (((tagB tag).toNat : Nat) : Int) := by
  have h : (tag % 256).toNat < 256 := by omega
  have h2 : (tagB tag).toNat = (tag % 256).toNat := UInt8.toNat_ofNat_of_lt' (by simpa using h)
  rw [h2]
  simp [IntKind.wrap, IntKind.bits, IntKind.signed]
  omega
theorem bytesB_len (s : List UInt8) (h : s.length ≤ 4000) : (bytesB s).length ≤ s.length + 9 := by
  have := intB_len9 (n := s.length) ⟨by omega, by omega⟩
  rw [bytesB, List.length_append]
  omega
theorem flat_le : ∀ (parts : List (List UInt8)), (∀ p ∈ parts, p.length ≤ 4000) → (parts.flatMap bytesB).length ≤ parts.length * 4009
  | [], _ => by simp
  | p :: ps, h => by
    have h1 := bytesB_len p (h p (.head _))
    have h2 := h p (.head _)
    have h3 := flat_le ps fun q hq => h q (.tail _ hq)
    rw [List.flatMap_cons, List.length_append, List.length_cons]
    omega
def preP (tag : Int) (parts : List (List UInt8)) (i : Nat) : List UInt8 := tagB tag :: (parts.take i).flatMap bytesB
theorem preP_zero (tag : Int) (parts : List (List UInt8)) : preP tag parts 0 = [tagB tag] := by simp [preP]
theorem preP_succ (tag : Int) (parts : List (List UInt8)) (i : Nat) (p : List UInt8) (h : parts[i]? = some p) : preP tag parts (i + 1) = preP tag parts i ++ bytesB p := by
  rw [preP, List.take_add_one, h, Option.toList_some, List.flatMap_append, List.flatMap_singleton, preP]
  rfl
theorem preP_all (tag : Int) (parts : List (List UInt8)) (i : Nat) (h : parts.length ≤ i) : preP tag parts i = ofIn tag parts := by
  rw [preP, List.take_of_length_le h, ofIn]
theorem preP_le (tag : Int) (parts : List (List UInt8)) (i : Nat) (h : ∀ p ∈ parts, p.length ≤ 4000) (hn : parts.length ≤ 100) : (preP tag parts i).length ≤ 400901 := by
  have h1 := flat_le (parts.take i) fun p hp => h p (List.mem_of_mem_take hp)
  rw [preP, List.length_cons]
  rw [List.length_take] at h1
  have : min i parts.length ≤ 100 := by omega
  have := Nat.mul_le_mul_right 4009 this
  omega
theorem ofIn_le (tag : Int) (parts : List (List UInt8)) (h : ∀ p ∈ parts, p.length ≤ 4000) (hn : parts.length ≤ 100) : (ofIn tag parts).length ≤ 400901 := by
  rw [← preP_all tag parts parts.length (Nat.le_refl _)]
  exact preP_le tag parts _ h hn
set_option maxRecDepth 100000 in
set_option maxHeartbeats 8000000 in
theorem input_r (G : Globs) (tag : Int) (parts : List (List UInt8)) (h : ∀ p ∈ parts, p.length ≤ 4000) (hn : parts.length ≤ 100) : PCalls Tryd.prog G 78 [pint .i64 tag, .list 1 (parts.map pstr)] [] (RowB (ofIn tag parts)) := by
  have hw := tagB_wrap tag
  (refine PCalls_f Tryd.func78 rfl Tryd.ntmps78 Tryd.results78 (by simp) fun fin hfin => ?_; have hnm : True := trivial; simp only [ev, simprocAttr])
  repeat' (first
    | (with_reducible apply W_seq_k; intro nx hnx)
    | (with_reducible first | refine wr 115 ?_)
    | ((with_reducible first | (apply WL_op; intro nx hnx) | refine Ev_out ?_ | refine wc ?_ | (refine pf hnm fun nm hnm => ?_; try simp only [fmb] at hnm) | (refine pm hnm fun nm hnm => ?_; try simp only [fmb] at hnm)); try (simp (maxSteps := 2000000) (disch := omega) only [ev, ↓evp, PV.cells, PV.one, PV.mem?, Value.cells, simprocAttr, hnm, Tryd.tf0, Tryd.tf1, Tryd.tf3, Tryd.tf4, Tryd.tf5, Tryd.tf9, Tryd.tf24, Tryd.tf27, Tryd.call49, hw]))
    | ((with_reducible first | apply W_block | apply W_scope | apply WL_nil | apply W_label | apply W_skip | apply W_exit | apply W_ret) <;> try simp only [kks, simprocAttr])
    | (with_reducible apply pg <;> (intro hc; (try simp only [hcb, simprocAttr, ne_eq, forall_const] at hc); first | (exfalso; omega) | exact absurd trivial hc | skip))
    | (with_reducible apply hnx; clear hnx nx)
    | (with_reducible refine And.intro (by omega) ?_)
    | (with_reducible refine And.intro ?_ ?_)
    | (clear hnx nx; with_reducible apply hnx; clear hnx nx)
    | (clear hnx nx; clear hnx nx; with_reducible apply hnx; clear hnx nx))
  refine W_loop_k (fun z τ => ∃ (i : Nat) (N : Int) (o : List UInt8), i ≤ parts.length ∧ z = parts.length - i ∧ o = preP tag parts i ∧ τ = ⟨fr 24 [(1, .list 1 (parts.map pstr)), (5, .row N 1 o.length), (6, pint .i64 i)], [(N, ⟨5, true, 1, o.map pbyte⟩)]⟩) parts.length
    ⟨fr 24 [(1, .list 1 (parts.map pstr)), (5, .row nm 1 1), (6, pint .i64 (0 : Nat))], [(nm, ⟨5, true, 1, [pbyte (tagB tag)]⟩)]⟩ (by
    exact Wk_fr (by simp only [wkb, simprocAttr]) ⟨by simp, by simp [names]⟩) ⟨0, nm, [tagB tag], by omega, by omega, by rw [preP_zero], rfl⟩ ?_
  rintro z τ ⟨i, N, o, hi, rfl, ho, rfl⟩ lp hlp
  have hle := preP_le tag parts i h hn
  rw [← ho] at hle
  by_cases hik : i < parts.length
  · obtain ⟨p, hg⟩ : ∃ p, parts[i]? = some p := ⟨_, List.getElem?_eq_getElem hik⟩
    have hg2 : parts[i]'(by omega) = p := by
      rw [List.getElem?_eq_getElem hik] at hg
      exact Option.some.inj hg
    have hp := h p (List.mem_of_getElem? hg)
    have hbl := bytesB_len p hp
    have hsu := preP_succ tag parts i p hg
    repeat' (first
    | (with_reducible apply W_seq_k; intro nx hnx)
    | (with_reducible first | refine wr 115 ?_)
    | ((with_reducible first | (apply WL_op; intro nx hnx) | refine Ev_out ?_ | refine wc ?_ | (refine pf hnm fun nm hnm => ?_; try simp only [fmb] at hnm) | (refine pm hnm fun nm hnm => ?_; try simp only [fmb] at hnm)); try (simp (maxSteps := 2000000) (disch := omega) only [ev, ↓evp, PV.cells, PV.one, PV.mem?, Value.cells, simprocAttr, hnm, Tryd.tf0, Tryd.tf1, Tryd.tf3, Tryd.tf4, Tryd.tf5, Tryd.tf9, Tryd.tf24, Tryd.tf27, Tryd.call49, hg, hg2, flat_pb]))
    | ((with_reducible first | apply W_block | apply W_scope | apply WL_nil | apply W_label | apply W_skip | apply W_exit | apply W_ret) <;> try simp only [kks, simprocAttr])
    | (with_reducible apply pg <;> (intro hc; (try simp only [hcb, simprocAttr, ne_eq, forall_const] at hc); first | (exfalso; omega) | exact absurd trivial hc | skip))
    | (with_reducible apply hnx; clear hnx nx)
    | (with_reducible refine And.intro (by omega) ?_)
    | (with_reducible refine And.intro ?_ ?_)
    | (with_reducible refine pe (rbytes_c G p (by omega)) ?_)
    | (clear hnx nx; with_reducible apply hnx; clear hnx nx)
    | (clear hnx nx; clear hnx nx; with_reducible apply hnx; clear hnx nx))
    all_goals first
      | (exfalso
         omega)
      | (refine hlp _ (parts.length - (i + 1)) _ (by omega) ?_ ⟨i + 1, nm, o ++ bytesB p, by omega, rfl, by rw [hsu, ho], rfl⟩
         rw [List.length_append, List.map_append]
         exact Wk_fr (by simp only [wkb, simprocAttr, List.length_cons, List.length_nil, Nat.zero_add]) ⟨by simp, by simp [names]⟩)
  · have hoh : o = ofIn tag parts := by rw [ho, preP_all _ _ _ (by omega)]
    rw [← hoh] at hfin
    repeat' (first
    | (with_reducible apply W_seq_k; intro nx hnx)
    | (with_reducible first | refine wr 115 ?_)
    | ((with_reducible first | (apply WL_op; intro nx hnx) | refine Ev_out ?_ | refine wc ?_ | (refine pf hnm fun nm hnm => ?_; try simp only [fmb] at hnm) | (refine pm hnm fun nm hnm => ?_; try simp only [fmb] at hnm)); try (simp (maxSteps := 2000000) (disch := omega) only [ev, ↓evp, PV.cells, PV.one, PV.mem?, Value.cells, simprocAttr, hnm, Tryd.tf0, Tryd.tf1, Tryd.tf3, Tryd.tf4, Tryd.tf5, Tryd.tf9, Tryd.tf24, Tryd.tf27, Tryd.call49]))
    | ((with_reducible first | apply W_block | apply W_scope | apply WL_nil | apply W_label | apply W_skip | apply W_exit | apply W_ret) <;> try simp only [kks, simprocAttr])
    | (with_reducible apply pg <;> (intro hc; (try simp only [hcb, simprocAttr, ne_eq, forall_const] at hc); first | (exfalso; omega) | exact absurd trivial hc | skip))
    | (with_reducible apply hnx; clear hnx nx)
    | (with_reducible refine And.intro (by omega) ?_)
    | (with_reducible refine And.intro ?_ ?_)
    | (clear hnx nx; with_reducible apply hnx; clear hnx nx)
    | (clear hnx nx; clear hnx nx; with_reducible apply hnx; clear hnx nx))
    all_goals first
      | (exfalso
         omega)
      | (refine hfin _ _ (Fin_ret1 rfl (Sub_refl (by simp [names])) ?_); simp only [cob, simprocAttr]
         exact ⟨N, rfl, rfl⟩)
theorem input_c (G : Globs) (tag : Int) (parts : List (List UInt8)) (h : ∀ p ∈ parts, p.length ≤ 4000) (hn : parts.length ≤ 100) : PCalls Tryd.prog G 78 [pint .i64 tag, .list 1 (parts.map pstr)] [] (fun res H => res = .list 1 ((ofIn tag parts).map pbyte) ∧ H = []) := RowB.frz (input_r G tag parts h hn)
/-- Bytes that are put in one after the other. -/
def bC (h : List UInt8) (i : Nat) : List PV := tab 16 fun m => if m < i then pbyte (h.getD m 0) else pint .u8 0
theorem bC_len (h : List UInt8) (i : Nat) : (bC h i).length = 16 := tab_len _ _
theorem bC_zero (h : List UInt8) : bC h 0 = List.replicate 16 (pint .u8 0) := by
  rw [bC, tab_congr (g := fun _ => pint .u8 0) (fun i _ => by simp)]
  simp [tab, List.range_succ]
theorem bC_set (h : List UInt8) (i : Nat) (hi : i < 16) : List.take i (bC h i) ++ [pbyte (h.getD i 0)] ++ List.drop (i + 1) (bC h i) = bC h (i + 1) := by
  rw [bC, tab_set hi, bC]
  refine tab_congr fun m _ => ?_
  by_cases h1 : m = i
  · subst h1
    rw [if_pos rfl, if_pos (by omega)]
  · rw [if_neg h1]
    rcases Nat.lt_or_ge m i with h2 | h2
    · rw [if_pos h2, if_pos (by omega)]
    · rw [if_neg (by omega), if_neg (by omega)]
theorem bC_full (h : List UInt8) (hl : 16 ≤ h.length) : bC h 16 = (h.take 16).map pbyte := by
  apply List.ext_getElem?
  intro i
  rcases Nat.lt_or_ge i 16 with hi | hi
  · rw [bC, tab_get hi, if_pos hi, List.getElem?_map, List.getElem?_take_of_lt hi, List.getD_eq_getElem?_getD, List.getElem?_eq_getElem (by omega)]
    rfl
  · rw [List.getElem?_eq_none (by rw [bC_len]; exact hi), List.getElem?_eq_none (by rw [List.length_map, List.length_take]; omega)]
attribute [irreducible] bC
set_option maxRecDepth 100000 in
set_option maxHeartbeats 8000000 in
theorem short_c (G : Globs) (hG : G 1 = .iptr (KS.map pw) 0) (b : List UInt8) (hb : b.length ≤ 4294960000) : PCalls Tryd.prog G 77 [.list 1 (b.map pbyte)] [] (fun res H => res = .agg (((sha b).take 16).map pbyte) ∧ H = []) := by
  have hs := rsum_c G hG b (by omega)
  have hl := sha_len b
  generalize sha b = h at *
  have o1 := all_one_byte h
  have l1 : (h.map pbyte).length = 32 := by rw [List.length_map, hl]
  (refine PCalls_f Tryd.func77 rfl Tryd.ntmps77 Tryd.results77 (by simp) fun fin hfin => ?_; have hnm : True := trivial; simp only [ev, simprocAttr])
  repeat' (first
    | (with_reducible apply W_seq_k; intro nx hnx)
    | (with_reducible first | refine wr 61 ?_)
    | ((with_reducible first | (apply WL_op; intro nx hnx) | refine Ev_out ?_ | refine wc ?_ | (refine pf hnm fun nm hnm => ?_; try simp only [fmb] at hnm) | (refine pm hnm fun nm hnm => ?_; try simp only [fmb] at hnm)); try (simp (maxSteps := 2000000) (disch := omega) only [ev, ↓evp, PV.cells, PV.one, PV.mem?, Value.cells, simprocAttr, hnm, Tryd.tf0, Tryd.tf3, Tryd.tf4, Tryd.tf5, Tryd.tf27, Tryd.tf37, Tryd.tf82, Tryd.call90, o1, l1]))
    | ((with_reducible first | apply W_block | apply W_scope | apply WL_nil | apply W_label | apply W_skip | apply W_exit | apply W_ret) <;> try simp only [kks, simprocAttr])
    | (with_reducible apply pg <;> (intro hc; (try simp only [hcb, simprocAttr, ne_eq, forall_const] at hc); first | (exfalso; omega) | exact absurd trivial hc | skip))
    | (with_reducible apply hnx; clear hnx nx)
    | (with_reducible refine And.intro (by omega) ?_)
    | (with_reducible refine And.intro ?_ ?_)
    | (with_reducible refine pe (hs) ?_)
    | (clear hnx nx; with_reducible apply hnx; clear hnx nx)
    | (clear hnx nx; clear hnx nx; with_reducible apply hnx; clear hnx nx))
  rename_i N2 _ N3 _
  have hnd : [nm, N3, N2].Nodup := by simp [hnm]
  refine W_loop_k (fun z τ => ∃ j : Nat, j ≤ 16 ∧ z = 16 - j ∧ τ = ⟨fr 19 [(5, pint .i64 j), (4, .ptr nm 0), (3, .ptr N3 0), (2, .ptr N2 0)], [(nm, ⟨37, false, 0, bC h j⟩), (N3, ⟨82, false, 0, h.map pbyte⟩), (N2, ⟨37, false, 0, bC h 0⟩)]⟩) 16
    ⟨fr 19 [(5, pint .i64 (0 : Nat)), (4, .ptr nm 0), (3, .ptr N3 0), (2, .ptr N2 0)], [(nm, ⟨37, false, 0, bC h 0⟩), (N3, ⟨82, false, 0, h.map pbyte⟩), (N2, ⟨37, false, 0, bC h 0⟩)]⟩ (by
    rw [bC_zero]
    refine Wk_fr (by simp only [wkb, simprocAttr]) ?_
    exact Sub_refl hnd) ⟨0, by omega, by omega, rfl⟩ ?_
  rintro z τ ⟨j, hj, rfl, rfl⟩ lp hlp
  have hcl := bC_len h j
  have hcl0 := bC_len h 0
  by_cases hj2 : j < 16
  · obtain ⟨x, hx⟩ : ∃ x, x = h.getD j 0 := ⟨_, rfl⟩
    have hg : h[j]? = some x := by rw [hx, List.getD_eq_getElem?_getD, List.getElem?_eq_getElem (by omega)]; rfl
    have hg2 : h[j]'(by omega) = x := by
      rw [List.getElem?_eq_getElem (by omega)] at hg
      exact Option.some.inj hg
    have hset := bC_set h j hj2
    rw [← hx] at hset
    repeat' (first
    | (with_reducible apply W_seq_k; intro nx hnx)
    | (with_reducible first | refine wr 61 ?_)
    | ((with_reducible first | (apply WL_op; intro nx hnx) | refine Ev_out ?_ | refine wc ?_ | (refine pf hnm fun nm hnm => ?_; try simp only [fmb] at hnm) | (refine pm hnm fun nm hnm => ?_; try simp only [fmb] at hnm)); try (simp (maxSteps := 2000000) (disch := omega) only [ev, ↓evp, PV.cells, PV.one, PV.mem?, Value.cells, simprocAttr, hnm, Tryd.tf0, Tryd.tf3, Tryd.tf4, Tryd.tf5, Tryd.tf27, Tryd.tf37, Tryd.tf82, Tryd.call90, l1, hl, hcl, hcl0, hg, hg2, hset]))
    | ((with_reducible first | apply W_block | apply W_scope | apply WL_nil | apply W_label | apply W_skip | apply W_exit | apply W_ret) <;> try simp only [kks, simprocAttr])
    | (with_reducible apply pg <;> (intro hc; (try simp only [hcb, simprocAttr, ne_eq, forall_const] at hc); first | (exfalso; omega) | exact absurd trivial hc | skip))
    | (with_reducible apply hnx; clear hnx nx)
    | (with_reducible refine And.intro (by omega) ?_)
    | (with_reducible refine And.intro ?_ ?_)
    | (clear hnx nx; with_reducible apply hnx; clear hnx nx)
    | (clear hnx nx; clear hnx nx; with_reducible apply hnx; clear hnx nx))
    all_goals first
      | (exfalso
         omega)
      | (refine hlp _ (16 - (j + 1)) _ (by omega) ?_ ⟨j + 1, by omega, rfl, rfl⟩
         refine Wk_fr (by simp only [wkb, simprocAttr]) ?_
         exact Sub_refl hnd)
  · have hje : j = 16 := by omega
    subst hje
    have hcf := bC_full h (by omega)
    have hone := all_one_byte (h.take 16)
    have hol : (h.take 16).length = 16 := by rw [List.length_take]; omega
    have htk : List.take 16 ((h.take 16).map pbyte) = (h.take 16).map pbyte := List.take_of_length_le (by rw [List.length_map]; omega)
    have hdr : List.drop 16 (bC h 0) = [] := List.drop_of_length_le (by omega)
    rw [hcf]
    generalize h.take 16 = q at *
    repeat' (first
    | (with_reducible apply W_seq_k; intro nx hnx)
    | (with_reducible first | refine wr 61 ?_)
    | ((with_reducible first | (apply WL_op; intro nx hnx) | refine Ev_out ?_ | refine wc ?_ | (refine pf hnm fun nm hnm => ?_; try simp only [fmb] at hnm) | (refine pm hnm fun nm hnm => ?_; try simp only [fmb] at hnm)); try (simp (maxSteps := 2000000) (disch := omega) only [ev, ↓evp, PV.cells, PV.one, PV.mem?, Value.cells, simprocAttr, hnm, Tryd.tf0, Tryd.tf3, Tryd.tf4, Tryd.tf5, Tryd.tf27, Tryd.tf37, Tryd.tf82, Tryd.call90, hol, htk, hone, hcl0, hdr, Nat.min_self]))
    | ((with_reducible first | apply W_block | apply W_scope | apply WL_nil | apply W_label | apply W_skip | apply W_exit | apply W_ret) <;> try simp only [kks, simprocAttr])
    | (with_reducible apply pg <;> (intro hc; (try simp only [hcb, simprocAttr, ne_eq, forall_const] at hc); first | (exfalso; omega) | exact absurd trivial hc | skip))
    | (with_reducible apply hnx; clear hnx nx)
    | (with_reducible refine And.intro (by omega) ?_)
    | (with_reducible refine And.intro ?_ ?_)
    | (clear hnx nx; with_reducible apply hnx; clear hnx nx)
    | (clear hnx nx; clear hnx nx; with_reducible apply hnx; clear hnx nx))
    all_goals first
      | (exfalso
         omega)
      | skip
    refine hfin _ _ (Fin_cell (res := .agg (q.map pbyte)) Tryd.tf37 (n := N2) (off := 0) (o := ⟨37, false, 0, q.map pbyte⟩) (by simp only [fr_getD_cons, Nat.reduceEqDiff, Nat.reduceLT, ↓reduceIte]) (by simp [look, hnm]) ?_ (Sub_nil _) ⟨rfl, rfl⟩)
    simp [pload, hol, htk, hone]
set_option maxRecDepth 100000 in
set_option maxHeartbeats 8000000 in
theorem rof_c (G : Globs) (hG : G 1 = .iptr (KS.map pw) 0) (tag : Int) (parts : List (List UInt8)) (h : ∀ p ∈ parts, p.length ≤ 4000) (hn : parts.length ≤ 100) : PCalls Tryd.prog G 53 [pint .i64 tag, .list 1 (parts.map pstr)] [] (fun res H => res = .agg ((ofH tag parts).map pbyte) ∧ H = []) := by
  have hle := ofIn_le tag parts h hn
  have c1 := input_c G tag parts h hn
  have c2 := short_c G hG (ofIn tag parts) (by omega)
  have hd : ofH tag parts = (sha (ofIn tag parts)).take 16 := rfl
  have hol := ofH_len tag parts
  rw [← hd] at c2
  have hone := all_one_byte (ofH tag parts)
  have htk : List.take 16 ((ofH tag parts).map pbyte) = (ofH tag parts).map pbyte := List.take_of_length_le (by rw [List.length_map]; omega)
  generalize ofH tag parts = q at *
  (refine PCalls_f Tryd.func53 rfl Tryd.ntmps53 Tryd.results53 (by simp) fun fin hfin => ?_; have hnm : True := trivial; simp only [ev, simprocAttr])
  repeat' (first
    | (with_reducible apply W_seq_k; intro nx hnx)
    | (with_reducible first | refine wr 19 ?_)
    | ((with_reducible first | (apply WL_op; intro nx hnx) | refine Ev_out ?_ | refine wc ?_ | (refine pf hnm fun nm hnm => ?_; try simp only [fmb] at hnm) | (refine pm hnm fun nm hnm => ?_; try simp only [fmb] at hnm)); try (simp (maxSteps := 2000000) (disch := omega) only [ev, ↓evp, PV.cells, PV.one, PV.mem?, Value.cells, simprocAttr, hnm, Tryd.tf0, Tryd.tf3, Tryd.tf5, Tryd.tf9, Tryd.tf24, Tryd.tf27, Tryd.tf37, Tryd.call77, Tryd.call78, hol, hone, htk]))
    | ((with_reducible first | apply W_block | apply W_scope | apply WL_nil | apply W_label | apply W_skip | apply W_exit | apply W_ret) <;> try simp only [kks, simprocAttr])
    | (with_reducible apply hnx; clear hnx nx)
    | (with_reducible refine And.intro (by omega) ?_)
    | (with_reducible refine And.intro ?_ ?_)
    | (with_reducible refine pe (c1) ?_)
    | (with_reducible refine pe (c2) ?_)
    | (clear hnx nx; with_reducible apply hnx; clear hnx nx)
    | (clear hnx nx; clear hnx nx; with_reducible apply hnx; clear hnx nx))
  refine hfin _ _ (Fin_cell (res := .agg (q.map pbyte)) Tryd.tf37 (n := nm) (off := 0) (o := ⟨37, false, 0, q.map pbyte⟩) (by simp only [fr_getD_cons, Nat.reduceEqDiff, Nat.reduceLT, ↓reduceIte]) (by simp [look, hnm]) ?_ (Sub_nil _) ⟨rfl, rfl⟩)
  simp [pload, hol, htk, hone]
end Go.PM

namespace Go.PM
open Go.Proofs
attribute [local irreducible] W PCalls pcall pcallI WL
theorem stC_len (t : List UInt8) : (stC t).length = 73 := by rw [stC_st3, st3_len (stS_len t) (qOf_len t)]
theorem stC_one (t : List UInt8) : (stC t).all PV.one = true := by rw [stC_st3]; exact st3_one
theorem stC_take (t : List UInt8) : List.take 73 (stC t) = stC t := List.take_of_length_le (by rw [stC_len]; exact Nat.le_refl _)
theorem stC_drop (t : List UInt8) : List.drop 73 (stC t) = [] := List.drop_of_length_le (by rw [stC_len]; exact Nat.le_refl _)
theorem isB1 (b : UInt8) : isByte (pint .u8 ((b.toNat : Nat) : Int)) = true := by
  have := b.toNat_lt
  simp [isByte]
  omega
attribute [local irreducible] stC
set_option maxRecDepth 100000 in
set_option maxHeartbeats 8000000 in
theorem hof_c (G : Globs) (hG : G 0 = .iptr (KS.map pw) 0) (tag : Int) (parts : List (List UInt8)) (h : ∀ p ∈ parts, p.length ≤ 4000) (hn : parts.length ≤ 100) : PCalls Tryd.prog G 14 [pint .i64 tag, .list 1 (parts.map pstr)] [] (fun res H => res = .agg ((ofH tag parts).map pbyte) ∧ H = []) := by
  have hw := tagB_wrap tag
  have a0 := add_c G hG [] [tagB tag] (by simp)
  rw [List.nil_append] at a0
  have hub := unb_pbyte (tagB tag)
  have his := isB1 (tagB tag)
  have htot := ofIn_le tag parts h hn
  have hs := ssum_c G hG (ofIn tag parts) (by omega)
  have hd : ofH tag parts = (sha (ofIn tag parts)).take 16 := rfl
  have hol := ofH_len tag parts
  have hsl := sha_len (ofIn tag parts)
  have hone := all_one_byte (ofH tag parts)
  have hone2 := all_one_byte (sha (ofIn tag parts))
  have htk : List.take 16 ((ofH tag parts).map pbyte) = (ofH tag parts).map pbyte := List.take_of_length_le (by rw [List.length_map]; omega)
  have htk2 : List.take 16 ((sha (ofIn tag parts)).map pbyte) = (ofH tag parts).map pbyte := by rw [hd, List.map_take]
  have htk3 : List.take 32 ((sha (ofIn tag parts)).map pbyte) = (sha (ofIn tag parts)).map pbyte := List.take_of_length_le (by rw [List.length_map]; omega)
  (refine PCalls_f Tryd.func14 rfl Tryd.ntmps14 Tryd.results14 (by simp) fun fin hfin => ?_; have hnm : True := trivial; simp only [ev, simprocAttr])
  with_reducible apply W_seq_k
  intro nx hnx
  repeat' (first
    | (with_reducible first | refine wr 229811 ?_ | refine wd (id := 1) 229811 3 (.op 1 true (.op 2 true (.alt 0 true (.alt 3 false (.op 4 true (.alt 5 false (.op 6 true (.op 7 false (.done))) (.alt 6 true (.op 5 false (.op 7 false (.done))) .stop))) (.alt 6 true (.op 3 false (.op 4 true (.op 5 false (.op 7 false (.done))))) .stop)) (.alt 3 false (.op 4 true (.alt 0 true (.alt 5 false (.op 6 true (.op 7 false (.done))) (.alt 6 true (.op 5 false (.op 7 false (.done))) .stop)) (.alt 6 true (.op 0 true (.op 5 false (.op 7 false (.done)))) .stop))) (.alt 6 true (.alt 0 true (.op 3 false (.op 4 true (.op 5 false (.op 7 false (.done))))) (.alt 3 false (.op 4 true (.op 0 true (.op 5 false (.op 7 false (.done))))) .stop)) .stop))))) (by kernel_rfl) ?_ | refine wd (id := 5) 229811 1 (.op 0 true (.op 1 true (.op 2 true (.op 3 true (.op 4 false (.op 5 false (.done))))))) (by kernel_rfl) ?_)
    | ((with_reducible first | (apply WL_op; intro nx hnx) | refine Ev_out ?_ | refine wc ?_ | (apply popsD_op; intro nx hnx) | (refine popsD_alt ?_ ?_; intro nx hnx) | (refine pf hnm fun nm hnm => ?_; try simp only [fmb] at hnm) | (refine pm hnm fun nm hnm => ?_; try simp only [fmb] at hnm)); try (simp (maxSteps := 2000000) (disch := omega) only [ev, ↓evp, PV.cells, PV.one, PV.mem?, Value.cells, simprocAttr, hnm, Tryd.tf0, Tryd.tf1, Tryd.tf3, Tryd.tf5, Tryd.tf9, Tryd.tf24, Tryd.tf27, Tryd.tf37, Tryd.tf79, Tryd.tf82, Tryd.call26, Tryd.call35, Tryd.call36, Tryd.call37]))
    | ((with_reducible first | apply W_block | apply W_scope | apply WL_nil | apply W_label | apply W_skip | apply W_exit | apply W_ret | apply popsD_done | exact popsD_stop) <;> try simp only [kks, simprocAttr])
    | (with_reducible apply pg <;> (intro hc; (try simp only [hcb, simprocAttr, ne_eq, forall_const] at hc); first | (exfalso; omega) | exact absurd trivial hc | skip))
    | (with_reducible apply hnx; clear hnx nx)
    | (with_reducible refine And.intro (by omega) ?_)
    | (with_reducible refine And.intro ?_ ?_)
    | (clear hnx nx; with_reducible apply hnx; clear hnx nx)
    | (clear hnx nx; clear hnx nx; with_reducible apply hnx; clear hnx nx))
  obtain ⟨N4, hN4⟩ : ∃ N, N = nm := ⟨_, rfl⟩
  subst hN4
  with_reducible apply W_seq_k
  intro nx hnx
  obtain ⟨Z, hZ⟩ : ∃ Z, Z = List.replicate 16 (pint .u8 0) := ⟨_, rfl⟩
  have hZl : Z.length = 16 := by rw [hZ]; rfl
  have hnx := W_join hnx (fun τ => ∃ N5 : Int, ¬ N5 = N4 ∧ τ = ⟨fr 32 [(1, .list 1 (parts.map pstr)), (4, .ptr N4 0), (5, .ptr N5 0)], [(N5, ⟨79, false, 0, stC [tagB tag]⟩), (N4, ⟨37, false, 0, Z⟩)]⟩) (by
    clear hnx nx hnm a0 his hub hw
    rintro τ ⟨N5, hN, rfl⟩
    have hnm : ¬ N5 = N4 ∧ ¬ N4 = N5 := ⟨hN, fun e => hN e.symm⟩
    have hnd : [N5, N4].Nodup := by simp [hN]
    repeat' (first
    | (with_reducible apply W_seq_k; intro nx hnx)
    | (with_reducible first | refine wr 229811 ?_ | refine wd (id := 1) 229811 3 (.op 1 true (.op 2 true (.alt 0 true (.alt 3 false (.op 4 true (.alt 5 false (.op 6 true (.op 7 false (.done))) (.alt 6 true (.op 5 false (.op 7 false (.done))) .stop))) (.alt 6 true (.op 3 false (.op 4 true (.op 5 false (.op 7 false (.done))))) .stop)) (.alt 3 false (.op 4 true (.alt 0 true (.alt 5 false (.op 6 true (.op 7 false (.done))) (.alt 6 true (.op 5 false (.op 7 false (.done))) .stop)) (.alt 6 true (.op 0 true (.op 5 false (.op 7 false (.done)))) .stop))) (.alt 6 true (.alt 0 true (.op 3 false (.op 4 true (.op 5 false (.op 7 false (.done))))) (.alt 3 false (.op 4 true (.op 0 true (.op 5 false (.op 7 false (.done))))) .stop)) .stop))))) (by kernel_rfl) ?_ | refine wd (id := 5) 229811 1 (.op 0 true (.op 1 true (.op 2 true (.op 3 true (.op 4 false (.op 5 false (.done))))))) (by kernel_rfl) ?_)
    | ((with_reducible first | (apply WL_op; intro nx hnx) | refine Ev_out ?_ | refine wc ?_ | (apply popsD_op; intro nx hnx) | (refine popsD_alt ?_ ?_; intro nx hnx) | (refine pf hnm fun nm hnm => ?_; try simp only [fmb] at hnm) | (refine pm hnm fun nm hnm => ?_; try simp only [fmb] at hnm)); try (simp (maxSteps := 2000000) (disch := omega) only [ev, ↓evp, PV.cells, PV.one, PV.mem?, Value.cells, simprocAttr, hnm, Tryd.tf0, Tryd.tf1, Tryd.tf3, Tryd.tf5, Tryd.tf9, Tryd.tf24, Tryd.tf27, Tryd.tf37, Tryd.tf79, Tryd.tf82, Tryd.call26, Tryd.call35, Tryd.call36, Tryd.call37]))
    | ((with_reducible first | apply W_block | apply W_scope | apply WL_nil | apply W_label | apply W_skip | apply W_exit | apply W_ret | apply popsD_done | exact popsD_stop) <;> try simp only [kks, simprocAttr])
    | (with_reducible apply pg <;> (intro hc; (try simp only [hcb, simprocAttr, ne_eq, forall_const] at hc); first | (exfalso; omega) | exact absurd trivial hc | skip))
    | (with_reducible apply hnx; clear hnx nx)
    | (with_reducible refine And.intro (by omega) ?_)
    | (with_reducible refine And.intro ?_ ?_)
    | (clear hnx nx; with_reducible apply hnx; clear hnx nx)
    | (clear hnx nx; clear hnx nx; with_reducible apply hnx; clear hnx nx))
    refine W_loop_k (fun z τ => ∃ (i : Nat) (u : List UInt8), i ≤ parts.length ∧ z = parts.length - i ∧ u = preP tag parts i ∧ τ = ⟨fr 32 [(15, .list 1 (parts.map pstr)), (16, pint .i64 parts.length), (17, pint .i64 i), (4, .ptr N4 0), (5, .ptr N5 0)], [(N5, ⟨79, false, 0, stC u⟩), (N4, ⟨37, false, 0, Z⟩)]⟩) parts.length
      ⟨fr 32 [(15, .list 1 (parts.map pstr)), (16, pint .i64 parts.length), (17, pint .i64 (0 : Nat)), (4, .ptr N4 0), (5, .ptr N5 0)], [(N5, ⟨79, false, 0, stC [tagB tag]⟩), (N4, ⟨37, false, 0, Z⟩)]⟩ (by
      refine Wk_fr (by simp only [wkb, simprocAttr]) ?_
      exact Sub_refl hnd) ⟨0, [tagB tag], by omega, by omega, (preP_zero tag parts).symm, rfl⟩ ?_
    rintro z τ ⟨i, u, hi, rfl, hu, rfl⟩ lp hlp
    have hle := preP_le tag parts i h hn
    rw [← hu] at hle
    have l1 := stC_len u
    have l2 := stC_one u
    have l3 := stC_take u
    have l4 := stC_drop u
    by_cases hik : i < parts.length
    · obtain ⟨p, hg⟩ : ∃ p, parts[i]? = some p := ⟨_, List.getElem?_eq_getElem hik⟩
      have hg2 : parts[i]'(by omega) = p := by
        rw [List.getElem?_eq_getElem hik] at hg
        exact Option.some.inj hg
      have hp := h p (List.mem_of_getElem? hg)
      have hbl := bytesB_len p hp
      have hsu := preP_succ tag parts i p hg
      have b1 := isByte_pb (bytesB p)
      have b2 := unb_pb (bytesB p)
      have a1 := add_c G hG u (bytesB p) (by omega)
      rw [← hu] at hsu
      have m1 := stC_len (u ++ bytesB p)
      have m2 := stC_one (u ++ bytesB p)
      have m3 := stC_take (u ++ bytesB p)
      repeat' (first
    | (with_reducible apply W_seq_k; intro nx hnx)
    | (with_reducible first | refine wr 229811 ?_ | refine wd (id := 1) 229811 3 (.op 1 true (.op 2 true (.alt 0 true (.alt 3 false (.op 4 true (.alt 5 false (.op 6 true (.op 7 false (.done))) (.alt 6 true (.op 5 false (.op 7 false (.done))) .stop))) (.alt 6 true (.op 3 false (.op 4 true (.op 5 false (.op 7 false (.done))))) .stop)) (.alt 3 false (.op 4 true (.alt 0 true (.alt 5 false (.op 6 true (.op 7 false (.done))) (.alt 6 true (.op 5 false (.op 7 false (.done))) .stop)) (.alt 6 true (.op 0 true (.op 5 false (.op 7 false (.done)))) .stop))) (.alt 6 true (.alt 0 true (.op 3 false (.op 4 true (.op 5 false (.op 7 false (.done))))) (.alt 3 false (.op 4 true (.op 0 true (.op 5 false (.op 7 false (.done))))) .stop)) .stop))))) (by kernel_rfl) ?_ | refine wd (id := 5) 229811 1 (.op 0 true (.op 1 true (.op 2 true (.op 3 true (.op 4 false (.op 5 false (.done))))))) (by kernel_rfl) ?_)
    | ((with_reducible first | (apply WL_op; intro nx hnx) | refine Ev_out ?_ | refine wc ?_ | (apply popsD_op; intro nx hnx) | (refine popsD_alt ?_ ?_; intro nx hnx) | (refine pf hnm fun nm hnm => ?_; try simp only [fmb] at hnm) | (refine pm hnm fun nm hnm => ?_; try simp only [fmb] at hnm)); try (simp (maxSteps := 2000000) (disch := omega) only [ev, ↓evp, PV.cells, PV.one, PV.mem?, Value.cells, simprocAttr, hnm, Tryd.tf0, Tryd.tf1, Tryd.tf3, Tryd.tf5, Tryd.tf9, Tryd.tf24, Tryd.tf27, Tryd.tf37, Tryd.tf79, Tryd.tf82, Tryd.call26, Tryd.call35, Tryd.call36, Tryd.call37, hg, hg2, b1, b2, l1, l2, l3, l4, m1, m2, m3]))
    | ((with_reducible first | apply W_block | apply W_scope | apply WL_nil | apply W_label | apply W_skip | apply W_exit | apply W_ret | apply popsD_done | exact popsD_stop) <;> try simp only [kks, simprocAttr])
    | (with_reducible apply pg <;> (intro hc; (try simp only [hcb, simprocAttr, ne_eq, forall_const] at hc); first | (exfalso; omega) | exact absurd trivial hc | skip))
    | (with_reducible apply hnx; clear hnx nx)
    | (with_reducible refine And.intro (by omega) ?_)
    | (with_reducible refine And.intro ?_ ?_)
    | (with_reducible refine pe (wbytes_c G p (by omega)) ?_)
    | (with_reducible refine pe (a1) ?_)
    | (clear hnx nx; with_reducible apply hnx; clear hnx nx)
    | (clear hnx nx; clear hnx nx; with_reducible apply hnx; clear hnx nx))
      all_goals first
        | exact rfl
        | (exfalso
           omega)
        | (refine hlp _ (parts.length - (i + 1)) _ (by omega) ?_ ⟨i + 1, u ++ bytesB p, by omega, rfl, hsu.symm, rfl⟩
           refine Wk_fr (by simp only [wkb, simprocAttr]) ?_
           exact Sub_refl hnd)
    · have hui : u = ofIn tag parts := by rw [hu, preP_all _ _ _ (by omega)]
      rw [← hui] at hs hone2 htk2 htk3 hsl
      have hZd : List.drop 16 Z = [] := List.drop_of_length_le (by omega)
      have hsl2 : ((sha u).map pbyte).length = 32 := by rw [List.length_map, hsl]
      have hol2 : ((ofH tag parts).map pbyte).length = 16 := by rw [List.length_map, hol]
      repeat' (first
    | (with_reducible apply W_seq_k; intro nx hnx)
    | (with_reducible first | refine wr 229811 ?_ | refine wd (id := 1) 229811 3 (.op 1 true (.op 2 true (.alt 0 true (.alt 3 false (.op 4 true (.alt 5 false (.op 6 true (.op 7 false (.done))) (.alt 6 true (.op 5 false (.op 7 false (.done))) .stop))) (.alt 6 true (.op 3 false (.op 4 true (.op 5 false (.op 7 false (.done))))) .stop)) (.alt 3 false (.op 4 true (.alt 0 true (.alt 5 false (.op 6 true (.op 7 false (.done))) (.alt 6 true (.op 5 false (.op 7 false (.done))) .stop)) (.alt 6 true (.op 0 true (.op 5 false (.op 7 false (.done)))) .stop))) (.alt 6 true (.alt 0 true (.op 3 false (.op 4 true (.op 5 false (.op 7 false (.done))))) (.alt 3 false (.op 4 true (.op 0 true (.op 5 false (.op 7 false (.done))))) .stop)) .stop))))) (by kernel_rfl) ?_ | refine wd (id := 5) 229811 1 (.op 0 true (.op 1 true (.op 2 true (.op 3 true (.op 4 false (.op 5 false (.done))))))) (by kernel_rfl) ?_)
    | ((with_reducible first | (apply WL_op; intro nx hnx) | refine Ev_out ?_ | refine wc ?_ | (apply popsD_op; intro nx hnx) | (refine popsD_alt ?_ ?_; intro nx hnx) | (refine pf hnm fun nm hnm => ?_; try simp only [fmb] at hnm) | (refine pm hnm fun nm hnm => ?_; try simp only [fmb] at hnm)); try (simp (maxSteps := 2000000) (disch := omega) only [ev, ↓evp, PV.cells, PV.one, PV.mem?, Value.cells, simprocAttr, hnm, Tryd.tf0, Tryd.tf1, Tryd.tf3, Tryd.tf5, Tryd.tf9, Tryd.tf24, Tryd.tf27, Tryd.tf37, Tryd.tf79, Tryd.tf82, Tryd.call26, Tryd.call35, Tryd.call36, Tryd.call37, l1, l2, l3, l4, hone2, htk2, htk3, hsl, hsl2, hZl, hZd, hol, hol2, hone, htk]))
    | ((with_reducible first | apply W_block | apply W_scope | apply WL_nil | apply W_label | apply W_skip | apply W_exit | apply W_ret | apply popsD_done | exact popsD_stop) <;> try simp only [kks, simprocAttr])
    | (with_reducible apply pg <;> (intro hc; (try simp only [hcb, simprocAttr, ne_eq, forall_const] at hc); first | (exfalso; omega) | exact absurd trivial hc | skip))
    | (with_reducible apply hnx; clear hnx nx)
    | (with_reducible refine And.intro (by omega) ?_)
    | (with_reducible refine And.intro ?_ ?_)
    | (with_reducible refine pe (hs) ?_)
    | (clear hnx nx; with_reducible apply hnx; clear hnx nx)
    | (clear hnx nx; clear hnx nx; with_reducible apply hnx; clear hnx nx))
      all_goals first
        | exact rfl
        | (exfalso
           omega)
        | skip
      generalize ofH tag parts = f at *
      refine hfin _ _ (Fin_cell (res := .agg (f.map pbyte)) Tryd.tf37 (n := N4) (off := 0) (o := ⟨37, false, 0, f.map pbyte⟩) (by simp only [fr_getD_cons, Nat.reduceEqDiff, Nat.reduceLT, ↓reduceIte]) (by simp [look, hnm]) ?_ (Sub_nil _) ⟨rfl, rfl⟩)
      simp [pload, hol, htk, hone])
  have mkT : ∀ (l : List (Nat × PV)) (H : Heap) (a : Int), ¬ a = N4 → (∀ x ∈ [(1, PV.list 1 (parts.map pstr)), (4, PV.ptr N4 0), (5, PV.ptr a 0)], (fr 32 l).getD x.1 .junk = x.2) →
      Sub [(a, ⟨79, false, 0, stC [tagB tag]⟩), (N4, ⟨37, false, 0, Z⟩)] H → nx ⟨fr 32 l, H⟩ :=
    fun l H a h1 h2 h3 => hnx _ ⟨_, ⟨a, h1, rfl⟩, Wk_fr h2 h3⟩
  clear hnx
  have l1 := stC_len [tagB tag]
  have l2 := stC_one [tagB tag]
  have l3 := stC_take [tagB tag]
  repeat' (first
    | (with_reducible apply W_seq_k; intro nx hnx)
    | (with_reducible first | refine wr 229811 ?_ | refine wd (id := 1) 229811 3 (.op 1 true (.op 2 true (.alt 0 true (.alt 3 false (.op 4 true (.alt 5 false (.op 6 true (.op 7 false (.done))) (.alt 6 true (.op 5 false (.op 7 false (.done))) .stop))) (.alt 6 true (.op 3 false (.op 4 true (.op 5 false (.op 7 false (.done))))) .stop)) (.alt 3 false (.op 4 true (.alt 0 true (.alt 5 false (.op 6 true (.op 7 false (.done))) (.alt 6 true (.op 5 false (.op 7 false (.done))) .stop)) (.alt 6 true (.op 0 true (.op 5 false (.op 7 false (.done)))) .stop))) (.alt 6 true (.alt 0 true (.op 3 false (.op 4 true (.op 5 false (.op 7 false (.done))))) (.alt 3 false (.op 4 true (.op 0 true (.op 5 false (.op 7 false (.done))))) .stop)) .stop))))) (by kernel_rfl) ?_ | refine wd (id := 5) 229811 1 (.op 0 true (.op 1 true (.op 2 true (.op 3 true (.op 4 false (.op 5 false (.done))))))) (by kernel_rfl) ?_)
    | ((with_reducible first | (apply WL_op; intro nx hnx) | refine Ev_out ?_ | refine wc ?_ | (apply popsD_op; intro nx hnx) | (refine popsD_alt ?_ ?_; intro nx hnx) | (refine pf hnm fun nm hnm => ?_; try simp only [fmb] at hnm) | (refine pm hnm fun nm hnm => ?_; try simp only [fmb] at hnm)); try (simp (maxSteps := 2000000) (disch := omega) only [ev, ↓evp, PV.cells, PV.one, PV.mem?, Value.cells, simprocAttr, hnm, Tryd.tf0, Tryd.tf1, Tryd.tf3, Tryd.tf5, Tryd.tf9, Tryd.tf24, Tryd.tf27, Tryd.tf37, Tryd.tf79, Tryd.tf82, Tryd.call26, Tryd.call35, Tryd.call36, Tryd.call37, hw, hub, his, l1, l2, l3]))
    | ((with_reducible first | apply W_block | apply W_scope | apply WL_nil | apply W_label | apply W_skip | apply W_exit | apply W_ret | apply popsD_done | exact popsD_stop) <;> try simp only [kks, simprocAttr])
    | (with_reducible apply pg <;> (intro hc; (try simp only [hcb, simprocAttr, ne_eq, forall_const] at hc); first | (exfalso; omega) | exact absurd trivial hc | skip))
    | (with_reducible apply hnx; clear hnx nx)
    | (with_reducible refine And.intro (by omega) ?_)
    | (with_reducible refine And.intro ?_ ?_)
    | (with_reducible refine pe (begin_c G) ?_)
    | (with_reducible refine pe (a0) ?_)
    | (clear hnx nx; with_reducible apply hnx; clear hnx nx)
    | (clear hnx nx; clear hnx nx; with_reducible apply hnx; clear hnx nx))
  all_goals first
    | exact rfl
    | skip
  all_goals
    rw [hZ] at mkT
    apply mkT
    rotate_left
    · simp only [List.forall_mem_cons, List.not_mem_nil, false_implies, implies_true, and_true, fr_getD_cons, fr_getD_nil, Nat.reduceEqDiff, Nat.reduceLT, ↓reduceIte]
      exact ⟨trivial, trivial, rfl⟩
    · exact ⟨by simp [List.replicate_succ], by simp [names, hnm]⟩
    · simp [hnm]
end Go.PM

namespace Go.PM
/-- The digest of lines. -/
def dgL (l : List (List UInt8)) : List UInt8 := ofH 5 [encL bytesB l]
theorem dgL_len (l : List (List UInt8)) : (dgL l).length = 16 := ofH_len _ _
/-- A change, encoded. -/
def chB (c : Chg) : List UInt8 := intB c.at_ ++ (intB c.drop ++ encL bytesB c.add)
/-- The message of the changes from u to v: the first i of them. -/
def preM (u v : List (List UInt8)) (i : Nat) : List UInt8 := encL id [dgL u, dgL v] ++ intB (diffL u v).length ++ ((diffL u v).take i).flatMap chB
def msgM (u v : List (List UInt8)) : List UInt8 := preM u v (diffL u v).length
theorem preM_step {u v : List (List UInt8)} {i : Nat} (h : i < (diffL u v).length) : preM u v (i + 1) = preM u v i ++ chB (diffL u v)[i] := by
  unfold preM
  rw [List.take_succ_eq_append_getElem h, List.flatMap_append]
  simp
/-- Few short lines. -/
def Small (l : List (List UInt8)) : Prop := l.length ≤ 14 ∧ ∀ s ∈ l, s.length ≤ 5
theorem flat5 : ∀ l : List (List UInt8), (∀ s ∈ l, s.length ≤ 5) → (l.flatMap bytesB).length ≤ 14 * l.length
  | [], _ => by simp
  | s :: l, h => by
    have h1 := bytesB_len s (by have := h s (List.mem_cons_self); omega)
    have h2 := h s (List.mem_cons_self)
    have h3 := flat5 l (fun x hx => h x (List.mem_cons_of_mem _ hx))
    rw [List.flatMap_cons, List.length_append, List.length_cons]
    omega
theorem enc5 {l : List (List UInt8)} (h : ∀ s ∈ l, s.length ≤ 5) (hl : l.length ≤ 1000) : (encL bytesB l).length ≤ 9 + 14 * l.length := by
  have h1 := flat5 l h
  have h2 := intB_len9 (n := (l.length : Int)) ⟨by omega, by omega⟩
  unfold encL
  rw [List.length_append]
  omega
theorem validL_in {n : Int} : ∀ (l : List Chg) (last : Int), -1 ≤ last → validL n last l = true → ∀ c ∈ l, 0 ≤ c.at_ ∧ c.at_ ≤ n ∧ 0 ≤ c.drop ∧ c.drop ≤ n
  | [], _, _, _, c, hc => by cases hc
  | x :: l, last, hl, hv, c, hc => by
    unfold validL at hv
    split at hv
    · cases hv
    · rcases List.mem_cons.1 hc with rfl | hc
      · omega
      · exact validL_in l _ (by omega) hv c hc
theorem adds_in (u : List (List UInt8)) : ∀ (l : List Chg) (p : Int), addsL l ≤ (applyF u p l).length ∧ ∀ c ∈ l, ∀ s ∈ c.add, s ∈ applyF u p l
  | [], p => by simp [addsL]
  | c :: l, p => by
    obtain ⟨h1, h2⟩ := adds_in u l (c.at_ + c.drop)
    refine ⟨?_, fun x hx s hs => ?_⟩
    · have e : addsL (c :: l) = c.add.length + addsL l := rfl
      rw [applyF, List.length_append, List.length_append, e]
      omega
    · rw [applyF]
      rcases List.mem_cons.1 hx with rfl | hx
      · exact List.mem_append.2 (.inr (List.mem_append.2 (.inl hs)))
      · exact List.mem_append.2 (.inr (List.mem_append.2 (.inr (h2 x hx s hs))))
theorem adds_one : ∀ (l : List Chg), ∀ c ∈ l, c.add.length ≤ addsL l
  | x :: l, c, hc => by
    have e : addsL (x :: l) = x.add.length + addsL l := rfl
    rw [e]
    rcases List.mem_cons.1 hc with rfl | hc
    · omega
    · have := adds_one l c hc
      omega
/-- What is known of the changes between few short lines. -/
theorem diff_small {u v : List (List UInt8)} (hu : Small u) (hv : Small v) : (diffL u v).length ≤ 28 ∧ addsL (diffL u v) ≤ 14 ∧ ∀ c ∈ diffL u v, (0 ≤ c.at_ ∧ c.at_ ≤ 14) ∧ (0 ≤ c.drop ∧ c.drop ≤ 14) ∧ c.add.length ≤ 14 ∧ ∀ s ∈ c.add, s.length ≤ 5 := by
  have h1 := diffL_len u v
  have h2 := validL_in _ _ (by omega) (diffL_valid u v)
  obtain ⟨h3, h4⟩ := adds_in u (diffL u v) 0
  rw [diffL_apply] at h3 h4
  have hul := hu.1
  have hvl := hv.1
  refine ⟨by omega, by omega, fun c hc => ?_⟩
  have h5 := h2 c hc
  have h6 := adds_one _ c hc
  exact ⟨by omega, by omega, by omega, fun s hs => hv.2 s (h4 c hc s hs)⟩
theorem chB_len {c : Chg} (h : (0 ≤ c.at_ ∧ c.at_ ≤ 14) ∧ (0 ≤ c.drop ∧ c.drop ≤ 14) ∧ c.add.length ≤ 14 ∧ ∀ s ∈ c.add, s.length ≤ 5) : (chB c).length ≤ 27 + 14 * c.add.length := by
  obtain ⟨h1, h2, h3, h4⟩ := h
  have e1 := intB_len9 (n := c.at_) ⟨by omega, by omega⟩
  have e2 := intB_len9 (n := c.drop) ⟨by omega, by omega⟩
  have e3 := enc5 h4 (by omega)
  unfold chB
  rw [List.length_append, List.length_append]
  omega
theorem flat_ch : ∀ l : List Chg, (∀ c ∈ l, (0 ≤ c.at_ ∧ c.at_ ≤ 14) ∧ (0 ≤ c.drop ∧ c.drop ≤ 14) ∧ c.add.length ≤ 14 ∧ ∀ s ∈ c.add, s.length ≤ 5) → (l.flatMap chB).length ≤ 27 * l.length + 14 * addsL l
  | [], _ => by simp
  | c :: l, h => by
    have h1 := chB_len (h c (List.mem_cons_self))
    have h2 := flat_ch l (fun x hx => h x (List.mem_cons_of_mem _ hx))
    have e : addsL (c :: l) = c.add.length + addsL l := rfl
    rw [List.flatMap_cons, List.length_append, List.length_cons, e]
    omega
theorem addsL_take : ∀ (l : List Chg) (i : Nat), addsL (l.take i) ≤ addsL l
  | [], i => by simp
  | c :: l, 0 => by simp [addsL]
  | c :: l, i + 1 => by
    have := addsL_take l i
    have e : addsL (c :: l) = c.add.length + addsL l := rfl
    have e2 : addsL ((c :: l).take (i + 1)) = c.add.length + addsL (l.take i) := rfl
    omega
theorem head_len (u v : List (List UInt8)) : (encL id [dgL u, dgL v]).length ≤ 41 := by
  have h2 := intB_len9 (n := 2) ⟨by omega, by omega⟩
  have e : encL id [dgL u, dgL v] = intB 2 ++ (dgL u ++ (dgL v ++ [])) := rfl
  rw [e, List.length_append, List.length_append, List.length_append, dgL_len, dgL_len, List.length_nil]
  omega
theorem preM_len {u v : List (List UInt8)} (hu : Small u) (hv : Small v) (i : Nat) : (preM u v i).length ≤ 1100 := by
  obtain ⟨h1, h2, h3⟩ := diff_small hu hv
  have h4 := flat_ch ((diffL u v).take i) (fun c hc => h3 c (List.mem_of_mem_take hc))
  have h5 := addsL_take (diffL u v) i
  have h6 := intB_len9 (n := ((diffL u v).length : Int)) ⟨by omega, by omega⟩
  have h7 := head_len u v
  have h8 : ((diffL u v).take i).length ≤ (diffL u v).length := by rw [List.length_take]; omega
  unfold preM
  rw [List.length_append, List.length_append]
  omega
theorem line_small (x : Int) : (lineI x).length ≤ 5 := by
  unfold lineI
  rw [List.length_take]
  have : (aroundI x 6).toNat ≤ 5 := by
    have := aroundI_range x 6 (by omega)
    omega
  omega
theorem lines_small (l : List Int) : Small ((l.take 14).map lineI) := by
  refine ⟨by rw [List.length_map, List.length_take]; omega, fun s hs => ?_⟩
  obtain ⟨x, _, rfl⟩ := List.mem_map.1 hs
  exact line_small x
end Go.PM

namespace Go.PM
open Go.Proofs
attribute [local irreducible] W PCalls pcall pcallI WL
set_option maxRecDepth 100000 in
set_option maxHeartbeats 8000000 in
theorem wstrs_r (G : Globs) (l : List (List UInt8)) (hv : ∀ s ∈ l, s.length ≤ 4294967296) (hl : (encL bytesB l).length ≤ 4294967296) (hl2 : l.length ≤ 4294967296) : PCalls Tryd.prog G 15 [.list 1 (l.map pstr)] [] (RowB (encL bytesB l)) := by
  (refine PCalls_f Tryd.func15 rfl Tryd.ntmps15 Tryd.results15 (by simp) fun fin hfin => ?_; have hnm : True := trivial; simp only [ev, simprocAttr])
  repeat' (first
    | (with_reducible apply W_seq_k; intro nx hnx)
    | (with_reducible first | refine wr 3629 ?_)
    | ((with_reducible first | (apply WL_op; intro nx hnx) | refine Ev_out ?_ | refine wc ?_ | (refine pf hnm fun nm hnm => ?_; try simp only [fmb] at hnm) | (refine pm hnm fun nm hnm => ?_; try simp only [fmb] at hnm)); try (simp (maxSteps := 2000000) (disch := omega) only [ev, ↓evp, PV.cells, PV.one, PV.mem?, Value.cells, simprocAttr, hnm, Tryd.tf0, Tryd.tf3, Tryd.tf5, Tryd.tf9, Tryd.tf24, Tryd.tf27, Tryd.call23, Tryd.call26]))
    | ((with_reducible first | apply W_block | apply W_scope | apply WL_nil | apply W_label | apply W_skip | apply W_exit | apply W_ret) <;> try simp only [kks, simprocAttr])
    | (with_reducible apply pg <;> (intro hc; (try simp only [hcb, simprocAttr, ne_eq, forall_const] at hc); first | (exfalso; omega) | exact absurd trivial hc | skip))
    | (with_reducible apply hnx; clear hnx nx)
    | (with_reducible refine And.intro (by omega) ?_)
    | (with_reducible refine And.intro ?_ ?_)
    | (clear hnx nx; with_reducible apply hnx; clear hnx nx)
    | (clear hnx nx; clear hnx nx; with_reducible apply hnx; clear hnx nx))
  refine pcall_k (wint_r G l.length (by omega) (by omega)) ?_
  rintro _ _ ⟨N0, rfl, rfl⟩ -
  refine Ev_in ?_
  repeat' (first
    | (with_reducible apply W_seq_k; intro nx hnx)
    | (with_reducible first | refine wr 3629 ?_)
    | ((with_reducible first | (apply WL_op; intro nx hnx) | refine Ev_out ?_ | refine wc ?_ | (refine pf hnm fun nm hnm => ?_; try simp only [fmb] at hnm) | (refine pm hnm fun nm hnm => ?_; try simp only [fmb] at hnm)); try (simp (maxSteps := 2000000) (disch := omega) only [ev, ↓evp, PV.cells, PV.one, PV.mem?, Value.cells, simprocAttr, hnm, Tryd.tf0, Tryd.tf3, Tryd.tf5, Tryd.tf9, Tryd.tf24, Tryd.tf27, Tryd.call23, Tryd.call26]))
    | ((with_reducible first | apply W_block | apply W_scope | apply WL_nil | apply W_label | apply W_skip | apply W_exit | apply W_ret) <;> try simp only [kks, simprocAttr])
    | (with_reducible apply pg <;> (intro hc; (try simp only [hcb, simprocAttr, ne_eq, forall_const] at hc); first | (exfalso; omega) | exact absurd trivial hc | skip))
    | (with_reducible apply hnx; clear hnx nx)
    | (with_reducible refine And.intro (by omega) ?_)
    | (with_reducible refine And.intro ?_ ?_)
    | (clear hnx nx; with_reducible apply hnx; clear hnx nx)
    | (clear hnx nx; clear hnx nx; with_reducible apply hnx; clear hnx nx))
  refine W_loop_k (fun z τ => ∃ (i : Nat) (N : Int), i ≤ l.length ∧ z = l.length - i ∧ τ = ⟨fr 21 [(3, .row N 1 (preE bytesB l i).length), (9, .list 1 (l.map pstr)), (10, pint .i64 l.length), (11, pint .i64 i)], [(N, ⟨5, true, 1, (preE bytesB l i).map pbyte⟩)]⟩) l.length ⟨fr 21 [(3, .row N0 1 (preE bytesB l 0).length), (9, .list 1 (l.map pstr)), (10, pint .i64 l.length), (11, pint .i64 (0 : Nat))], [(N0, ⟨5, true, 1, (preE bytesB l 0).map pbyte⟩)]⟩ (by
    rw [preE_zero]
    exact Wk_fr (by simp only [wkb, simprocAttr]) ⟨by simp, by simp [names]⟩) ⟨0, N0, by omega, by omega, rfl⟩ ?_
  rintro z τ ⟨i, N, hi', rfl, rfl⟩ lp hlp
  have hle := preE_le bytesB l (i + 1)
  by_cases hi : i < l.length
  · rw [preE_succ bytesB l i hi, List.length_append] at hle
    repeat' (first
    | (with_reducible apply W_seq_k; intro nx hnx)
    | (with_reducible first | refine wr 3629 ?_)
    | ((with_reducible first | (apply WL_op; intro nx hnx) | refine Ev_out ?_ | refine wc ?_ | (refine pf hnm fun nm hnm => ?_; try simp only [fmb] at hnm) | (refine pm hnm fun nm hnm => ?_; try simp only [fmb] at hnm)); try (simp (maxSteps := 2000000) (disch := omega) only [ev, ↓evp, PV.cells, PV.one, PV.mem?, Value.cells, simprocAttr, hnm, Tryd.tf0, Tryd.tf3, Tryd.tf5, Tryd.tf9, Tryd.tf24, Tryd.tf27, Tryd.call23, Tryd.call26]))
    | ((with_reducible first | apply W_block | apply W_scope | apply WL_nil | apply W_label | apply W_skip | apply W_exit | apply W_ret) <;> try simp only [kks, simprocAttr])
    | (with_reducible apply pg <;> (intro hc; (try simp only [hcb, simprocAttr, ne_eq, forall_const] at hc); first | (exfalso; omega) | exact absurd trivial hc | skip))
    | (with_reducible apply hnx; clear hnx nx)
    | (with_reducible refine And.intro (by omega) ?_)
    | (with_reducible refine And.intro ?_ ?_)
    | (clear hnx nx; with_reducible apply hnx; clear hnx nx)
    | (clear hnx nx; clear hnx nx; with_reducible apply hnx; clear hnx nx))
    all_goals first
      | (exfalso
         omega)
      | skip
    refine pcall_k (wbytes_c G l[i] (hv _ (List.getElem_mem hi))) ?_
    rintro _ _ ⟨rfl, rfl⟩ -
    refine Ev_in ?_
    repeat' (first
    | (with_reducible apply W_seq_k; intro nx hnx)
    | (with_reducible first | refine wr 3629 ?_)
    | ((with_reducible first | (apply WL_op; intro nx hnx) | refine Ev_out ?_ | refine wc ?_ | (refine pf hnm fun nm hnm => ?_; try simp only [fmb] at hnm) | (refine pm hnm fun nm hnm => ?_; try simp only [fmb] at hnm)); try (simp (maxSteps := 2000000) (disch := omega) only [ev, ↓evp, PV.cells, PV.one, PV.mem?, Value.cells, simprocAttr, hnm, Tryd.tf0, Tryd.tf3, Tryd.tf5, Tryd.tf9, Tryd.tf24, Tryd.tf27, Tryd.call23, Tryd.call26, flat_pb]))
    | ((with_reducible first | apply W_block | apply W_scope | apply WL_nil | apply W_label | apply W_skip | apply W_exit | apply W_ret) <;> try simp only [kks, simprocAttr])
    | (with_reducible apply pg <;> (intro hc; (try simp only [hcb, simprocAttr, ne_eq, forall_const] at hc); first | (exfalso; omega) | exact absurd trivial hc | skip))
    | (with_reducible apply hnx; clear hnx nx)
    | (with_reducible refine And.intro (by omega) ?_)
    | (with_reducible refine And.intro ?_ ?_)
    | (clear hnx nx; with_reducible apply hnx; clear hnx nx)
    | (clear hnx nx; clear hnx nx; with_reducible apply hnx; clear hnx nx))
    all_goals first
      | (refine hlp _ (l.length - (i + 1)) _ (by omega) ?_ ⟨i + 1, nm, by omega, rfl, rfl⟩
         rw [preE_succ bytesB l i hi, List.length_append, List.map_append]
         exact Wk_fr (by simp only [wkb, simprocAttr]) ⟨by simp, by simp [names]⟩)
  · repeat' (first
    | (with_reducible apply W_seq_k; intro nx hnx)
    | (with_reducible first | refine wr 3629 ?_)
    | ((with_reducible first | (apply WL_op; intro nx hnx) | refine Ev_out ?_ | refine wc ?_ | (refine pf hnm fun nm hnm => ?_; try simp only [fmb] at hnm) | (refine pm hnm fun nm hnm => ?_; try simp only [fmb] at hnm)); try (simp (maxSteps := 2000000) (disch := omega) only [ev, ↓evp, PV.cells, PV.one, PV.mem?, Value.cells, simprocAttr, hnm, Tryd.tf0, Tryd.tf3, Tryd.tf5, Tryd.tf9, Tryd.tf24, Tryd.tf27, Tryd.call23, Tryd.call26]))
    | ((with_reducible first | apply W_block | apply W_scope | apply WL_nil | apply W_label | apply W_skip | apply W_exit | apply W_ret) <;> try simp only [kks, simprocAttr])
    | (with_reducible apply pg <;> (intro hc; (try simp only [hcb, simprocAttr, ne_eq, forall_const] at hc); first | (exfalso; omega) | exact absurd trivial hc | skip))
    | (with_reducible apply hnx; clear hnx nx)
    | (with_reducible refine And.intro (by omega) ?_)
    | (with_reducible refine And.intro ?_ ?_)
    | (clear hnx nx; with_reducible apply hnx; clear hnx nx)
    | (clear hnx nx; clear hnx nx; with_reducible apply hnx; clear hnx nx))
    all_goals first
      | (exfalso
         omega)
      | (refine hfin _ _ (Fin_ret1 rfl (Sub_refl (by simp [names])) ?_); simp only [cob, simprocAttr]
         rw [preE_all bytesB l i (by omega)]
         exact ⟨N, rfl, rfl⟩)
theorem wstrs_c (G : Globs) (l : List (List UInt8)) (hv : ∀ s ∈ l, s.length ≤ 4294967296) (hl : (encL bytesB l).length ≤ 4294967296) (hl2 : l.length ≤ 4294967296) : PCalls Tryd.prog G 15 [.list 1 (l.map pstr)] [] (fun res H => res = .list 1 ((encL bytesB l).map pbyte) ∧ H = []) := RowB.frz (wstrs_r G l hv hl hl2)
set_option maxRecDepth 100000 in
set_option maxHeartbeats 8000000 in
theorem rstrs_r (G : Globs) (l : List (List UInt8)) (hv : ∀ s ∈ l, s.length ≤ 4294967296) (hl : (encL bytesB l).length ≤ 4294967296) (hl2 : l.length ≤ 4294967296) : PCalls Tryd.prog G 52 [.list 1 (l.map pstr)] [] (RowB (encL bytesB l)) := by
  (refine PCalls_f Tryd.func52 rfl Tryd.ntmps52 Tryd.results52 (by simp) fun fin hfin => ?_; have hnm : True := trivial; simp only [ev, simprocAttr])
  repeat' (first
    | (with_reducible apply W_seq_k; intro nx hnx)
    | (with_reducible first | refine wr 29 ?_)
    | ((with_reducible first | (apply WL_op; intro nx hnx) | refine Ev_out ?_ | refine wc ?_ | (refine pf hnm fun nm hnm => ?_; try simp only [fmb] at hnm) | (refine pm hnm fun nm hnm => ?_; try simp only [fmb] at hnm)); try (simp (maxSteps := 2000000) (disch := omega) only [ev, ↓evp, PV.cells, PV.one, PV.mem?, Value.cells, simprocAttr, hnm, Tryd.tf0, Tryd.tf3, Tryd.tf4, Tryd.tf5, Tryd.tf9, Tryd.tf24, Tryd.tf27, Tryd.call49, Tryd.call51]))
    | ((with_reducible first | apply W_block | apply W_scope | apply WL_nil | apply W_label | apply W_skip | apply W_exit | apply W_ret) <;> try simp only [kks, simprocAttr])
    | (with_reducible apply pg <;> (intro hc; (try simp only [hcb, simprocAttr, ne_eq, forall_const] at hc); first | (exfalso; omega) | exact absurd trivial hc | skip))
    | (with_reducible apply hnx; clear hnx nx)
    | (with_reducible refine And.intro (by omega) ?_)
    | (with_reducible refine And.intro ?_ ?_)
    | (clear hnx nx; with_reducible apply hnx; clear hnx nx)
    | (clear hnx nx; clear hnx nx; with_reducible apply hnx; clear hnx nx))
  refine pcall_k (rint_r G l.length (by omega) (by omega)) ?_
  rintro _ _ ⟨N0, rfl, rfl⟩ -
  refine Ev_in ?_
  repeat' (first
    | (with_reducible apply W_seq_k; intro nx hnx)
    | (with_reducible first | refine wr 29 ?_)
    | ((with_reducible first | (apply WL_op; intro nx hnx) | refine Ev_out ?_ | refine wc ?_ | (refine pf hnm fun nm hnm => ?_; try simp only [fmb] at hnm) | (refine pm hnm fun nm hnm => ?_; try simp only [fmb] at hnm)); try (simp (maxSteps := 2000000) (disch := omega) only [ev, ↓evp, PV.cells, PV.one, PV.mem?, Value.cells, simprocAttr, hnm, Tryd.tf0, Tryd.tf3, Tryd.tf4, Tryd.tf5, Tryd.tf9, Tryd.tf24, Tryd.tf27, Tryd.call49, Tryd.call51]))
    | ((with_reducible first | apply W_block | apply W_scope | apply WL_nil | apply W_label | apply W_skip | apply W_exit | apply W_ret) <;> try simp only [kks, simprocAttr])
    | (with_reducible apply pg <;> (intro hc; (try simp only [hcb, simprocAttr, ne_eq, forall_const] at hc); first | (exfalso; omega) | exact absurd trivial hc | skip))
    | (with_reducible apply hnx; clear hnx nx)
    | (with_reducible refine And.intro (by omega) ?_)
    | (with_reducible refine And.intro ?_ ?_)
    | (clear hnx nx; with_reducible apply hnx; clear hnx nx)
    | (clear hnx nx; clear hnx nx; with_reducible apply hnx; clear hnx nx))
  refine W_loop_k (fun z τ => ∃ (i : Nat) (N : Int), i ≤ l.length ∧ z = l.length - i ∧ τ = ⟨fr 22 [(3, .row N 1 (preE bytesB l i).length), (0, .list 1 (l.map pstr)), (4, pint .i64 i)], [(N, ⟨5, true, 1, (preE bytesB l i).map pbyte⟩)]⟩) l.length ⟨fr 22 [(3, .row N0 1 (preE bytesB l 0).length), (0, .list 1 (l.map pstr)), (4, pint .i64 (0 : Nat))], [(N0, ⟨5, true, 1, (preE bytesB l 0).map pbyte⟩)]⟩ (by
    rw [preE_zero]
    exact Wk_fr (by simp only [wkb, simprocAttr]) ⟨by simp, by simp [names]⟩) ⟨0, N0, by omega, by omega, rfl⟩ ?_
  rintro z τ ⟨i, N, hi', rfl, rfl⟩ lp hlp
  have hle := preE_le bytesB l (i + 1)
  by_cases hi : i < l.length
  · rw [preE_succ bytesB l i hi, List.length_append] at hle
    repeat' (first
    | (with_reducible apply W_seq_k; intro nx hnx)
    | (with_reducible first | refine wr 29 ?_)
    | ((with_reducible first | (apply WL_op; intro nx hnx) | refine Ev_out ?_ | refine wc ?_ | (refine pf hnm fun nm hnm => ?_; try simp only [fmb] at hnm) | (refine pm hnm fun nm hnm => ?_; try simp only [fmb] at hnm)); try (simp (maxSteps := 2000000) (disch := omega) only [ev, ↓evp, PV.cells, PV.one, PV.mem?, Value.cells, simprocAttr, hnm, Tryd.tf0, Tryd.tf3, Tryd.tf4, Tryd.tf5, Tryd.tf9, Tryd.tf24, Tryd.tf27, Tryd.call49, Tryd.call51]))
    | ((with_reducible first | apply W_block | apply W_scope | apply WL_nil | apply W_label | apply W_skip | apply W_exit | apply W_ret) <;> try simp only [kks, simprocAttr])
    | (with_reducible apply pg <;> (intro hc; (try simp only [hcb, simprocAttr, ne_eq, forall_const] at hc); first | (exfalso; omega) | exact absurd trivial hc | skip))
    | (with_reducible apply hnx; clear hnx nx)
    | (with_reducible refine And.intro (by omega) ?_)
    | (with_reducible refine And.intro ?_ ?_)
    | (clear hnx nx; with_reducible apply hnx; clear hnx nx)
    | (clear hnx nx; clear hnx nx; with_reducible apply hnx; clear hnx nx))
    all_goals first
      | (exfalso
         omega)
      | skip
    refine pcall_k (rbytes_c G l[i] (hv _ (List.getElem_mem hi))) ?_
    rintro _ _ ⟨rfl, rfl⟩ -
    refine Ev_in ?_
    repeat' (first
    | (with_reducible apply W_seq_k; intro nx hnx)
    | (with_reducible first | refine wr 29 ?_)
    | ((with_reducible first | (apply WL_op; intro nx hnx) | refine Ev_out ?_ | refine wc ?_ | (refine pf hnm fun nm hnm => ?_; try simp only [fmb] at hnm) | (refine pm hnm fun nm hnm => ?_; try simp only [fmb] at hnm)); try (simp (maxSteps := 2000000) (disch := omega) only [ev, ↓evp, PV.cells, PV.one, PV.mem?, Value.cells, simprocAttr, hnm, Tryd.tf0, Tryd.tf3, Tryd.tf4, Tryd.tf5, Tryd.tf9, Tryd.tf24, Tryd.tf27, Tryd.call49, Tryd.call51, flat_pb]))
    | ((with_reducible first | apply W_block | apply W_scope | apply WL_nil | apply W_label | apply W_skip | apply W_exit | apply W_ret) <;> try simp only [kks, simprocAttr])
    | (with_reducible apply pg <;> (intro hc; (try simp only [hcb, simprocAttr, ne_eq, forall_const] at hc); first | (exfalso; omega) | exact absurd trivial hc | skip))
    | (with_reducible apply hnx; clear hnx nx)
    | (with_reducible refine And.intro (by omega) ?_)
    | (with_reducible refine And.intro ?_ ?_)
    | (clear hnx nx; with_reducible apply hnx; clear hnx nx)
    | (clear hnx nx; clear hnx nx; with_reducible apply hnx; clear hnx nx))
    all_goals first
      | (refine hlp _ (l.length - (i + 1)) _ (by omega) ?_ ⟨i + 1, nm, by omega, rfl, rfl⟩
         rw [preE_succ bytesB l i hi, List.length_append, List.map_append]
         exact Wk_fr (by simp only [wkb, simprocAttr]) ⟨by simp, by simp [names]⟩)
  · repeat' (first
    | (with_reducible apply W_seq_k; intro nx hnx)
    | (with_reducible first | refine wr 29 ?_)
    | ((with_reducible first | (apply WL_op; intro nx hnx) | refine Ev_out ?_ | refine wc ?_ | (refine pf hnm fun nm hnm => ?_; try simp only [fmb] at hnm) | (refine pm hnm fun nm hnm => ?_; try simp only [fmb] at hnm)); try (simp (maxSteps := 2000000) (disch := omega) only [ev, ↓evp, PV.cells, PV.one, PV.mem?, Value.cells, simprocAttr, hnm, Tryd.tf0, Tryd.tf3, Tryd.tf4, Tryd.tf5, Tryd.tf9, Tryd.tf24, Tryd.tf27, Tryd.call49, Tryd.call51]))
    | ((with_reducible first | apply W_block | apply W_scope | apply WL_nil | apply W_label | apply W_skip | apply W_exit | apply W_ret) <;> try simp only [kks, simprocAttr])
    | (with_reducible apply pg <;> (intro hc; (try simp only [hcb, simprocAttr, ne_eq, forall_const] at hc); first | (exfalso; omega) | exact absurd trivial hc | skip))
    | (with_reducible apply hnx; clear hnx nx)
    | (with_reducible refine And.intro (by omega) ?_)
    | (with_reducible refine And.intro ?_ ?_)
    | (clear hnx nx; with_reducible apply hnx; clear hnx nx)
    | (clear hnx nx; clear hnx nx; with_reducible apply hnx; clear hnx nx))
    all_goals first
      | (exfalso
         omega)
      | (refine hfin _ _ (Fin_ret1 rfl (Sub_refl (by simp [names])) ?_); simp only [cob, simprocAttr]
         rw [preE_all bytesB l i (by omega)]
         exact ⟨N, rfl, rfl⟩)
theorem rstrs_c (G : Globs) (l : List (List UInt8)) (hv : ∀ s ∈ l, s.length ≤ 4294967296) (hl : (encL bytesB l).length ≤ 4294967296) (hl2 : l.length ≤ 4294967296) : PCalls Tryd.prog G 52 [.list 1 (l.map pstr)] [] (fun res H => res = .list 1 ((encL bytesB l).map pbyte) ∧ H = []) := RowB.frz (rstrs_r G l hv hl hl2)
end Go.PM

namespace Go.PM
open Go.Proofs
attribute [local irreducible] W PCalls pcall pcallI WL
/-- A digest. -/
@[reducible] def pdh (d : List UInt8) : PV := .agg (d.map pbyte)
theorem all_one_pbyte (d : List UInt8) : (d.map pbyte).all PV.one = true := by
  rw [List.all_eq_true]
  intro p hp
  obtain ⟨b, _, rfl⟩ := List.mem_map.1 hp
  rfl
set_option maxRecDepth 100000 in
set_option maxHeartbeats 8000000 in
theorem wdigs_r (G : Globs) (l : List (List UInt8)) (hv : ∀ d ∈ l, d.length = 16) (hl : (encL id l).length ≤ 4294967296) (hl2 : l.length ≤ 4294967296) : PCalls Tryd.prog G 21 [.list 16 (l.map pdh)] [] (RowB (encL id l)) := by
  (refine PCalls_f Tryd.func21 rfl Tryd.ntmps21 Tryd.results21 (by simp) fun fin hfin => ?_; have hnm : True := trivial; simp only [ev, simprocAttr])
  repeat' (first
    | (with_reducible apply W_seq_k; intro nx hnx)
    | (with_reducible first | refine wr 3629 ?_)
    | ((with_reducible first | (apply WL_op; intro nx hnx) | refine Ev_out ?_ | refine wc ?_ | (refine pf hnm fun nm hnm => ?_; try simp only [fmb] at hnm) | (refine pm hnm fun nm hnm => ?_; try simp only [fmb] at hnm)); try (simp (maxSteps := 2000000) (disch := omega) only [ev, ↓evp, PV.cells, PV.one, PV.mem?, Value.cells, simprocAttr, hnm, Tryd.tf0, Tryd.tf3, Tryd.tf5, Tryd.tf27, Tryd.tf37, Tryd.tf58, Tryd.call23]))
    | ((with_reducible first | apply W_block | apply W_scope | apply WL_nil | apply W_label | apply W_skip | apply W_exit | apply W_ret) <;> try simp only [kks, simprocAttr])
    | (with_reducible apply pg <;> (intro hc; (try simp only [hcb, simprocAttr, ne_eq, forall_const] at hc); first | (exfalso; omega) | exact absurd trivial hc | skip))
    | (with_reducible apply hnx; clear hnx nx)
    | (with_reducible refine And.intro (by omega) ?_)
    | (with_reducible refine And.intro ?_ ?_)
    | (clear hnx nx; with_reducible apply hnx; clear hnx nx)
    | (clear hnx nx; clear hnx nx; with_reducible apply hnx; clear hnx nx))
  refine pcall_k (wint_r G l.length (by omega) (by omega)) ?_
  rintro _ _ ⟨N0, rfl, rfl⟩ -
  refine Ev_in ?_
  repeat' (first
    | (with_reducible apply W_seq_k; intro nx hnx)
    | (with_reducible first | refine wr 3629 ?_)
    | ((with_reducible first | (apply WL_op; intro nx hnx) | refine Ev_out ?_ | refine wc ?_ | (refine pf hnm fun nm hnm => ?_; try simp only [fmb] at hnm) | (refine pm hnm fun nm hnm => ?_; try simp only [fmb] at hnm)); try (simp (maxSteps := 2000000) (disch := omega) only [ev, ↓evp, PV.cells, PV.one, PV.mem?, Value.cells, simprocAttr, hnm, Tryd.tf0, Tryd.tf3, Tryd.tf5, Tryd.tf27, Tryd.tf37, Tryd.tf58, Tryd.call23]))
    | ((with_reducible first | apply W_block | apply W_scope | apply WL_nil | apply W_label | apply W_skip | apply W_exit | apply W_ret) <;> try simp only [kks, simprocAttr])
    | (with_reducible apply pg <;> (intro hc; (try simp only [hcb, simprocAttr, ne_eq, forall_const] at hc); first | (exfalso; omega) | exact absurd trivial hc | skip))
    | (with_reducible apply hnx; clear hnx nx)
    | (with_reducible refine And.intro (by omega) ?_)
    | (with_reducible refine And.intro ?_ ?_)
    | (clear hnx nx; with_reducible apply hnx; clear hnx nx)
    | (clear hnx nx; clear hnx nx; with_reducible apply hnx; clear hnx nx))
  refine W_loop_k (fun z τ => ∃ (i : Nat) (N : Int), i ≤ l.length ∧ z = l.length - i ∧ τ = ⟨fr 20 [(3, .row N 1 (preE id l i).length), (9, .list 16 (l.map pdh)), (10, pint .i64 l.length), (11, pint .i64 i)], [(N, ⟨5, true, 1, (preE id l i).map pbyte⟩)]⟩) l.length ⟨fr 20 [(3, .row N0 1 (preE id l 0).length), (9, .list 16 (l.map pdh)), (10, pint .i64 l.length), (11, pint .i64 (0 : Nat))], [(N0, ⟨5, true, 1, (preE id l 0).map pbyte⟩)]⟩ (by
    rw [preE_zero]
    exact Wk_fr (by simp only [wkb, simprocAttr]) ⟨by simp, by simp [names]⟩) ⟨0, N0, by omega, by omega, rfl⟩ ?_
  rintro z τ ⟨i, N, hi', rfl, rfl⟩ lp hlp
  have hle := preE_le id l (i + 1)
  by_cases hi : i < l.length
  · rw [preE_succ id l i hi, List.length_append] at hle
    obtain ⟨d, hd⟩ : ∃ d, l[i] = d := ⟨_, rfl⟩
    have hd16 : d.length = 16 := hd ▸ hv _ (List.getElem_mem hi)
    have ht16 : List.take 16 (d.map pbyte) = d.map pbyte := List.take_of_length_le (by simp [hd16])
    have h1s := all_one_pbyte d
    have hi2 : id l[i] = d := hd
    rw [hi2, hd16] at hle
    repeat' (first
    | (with_reducible apply W_seq_k; intro nx hnx)
    | (with_reducible first | refine wr 3629 ?_)
    | ((with_reducible first | (apply WL_op; intro nx hnx) | refine Ev_out ?_ | refine wc ?_ | (refine pf hnm fun nm hnm => ?_; try simp only [fmb] at hnm) | (refine pm hnm fun nm hnm => ?_; try simp only [fmb] at hnm)); try (simp (maxSteps := 2000000) (disch := omega) only [ev, ↓evp, PV.cells, PV.one, PV.mem?, Value.cells, simprocAttr, hnm, Tryd.tf0, Tryd.tf3, Tryd.tf5, Tryd.tf27, Tryd.tf37, Tryd.tf58, Tryd.call23, hd, hd16, ht16, h1s]))
    | ((with_reducible first | apply W_block | apply W_scope | apply WL_nil | apply W_label | apply W_skip | apply W_exit | apply W_ret) <;> try simp only [kks, simprocAttr])
    | (with_reducible apply pg <;> (intro hc; (try simp only [hcb, simprocAttr, ne_eq, forall_const] at hc); first | (exfalso; omega) | exact absurd trivial hc | skip))
    | (with_reducible apply hnx; clear hnx nx)
    | (with_reducible refine And.intro (by omega) ?_)
    | (with_reducible refine And.intro ?_ ?_)
    | (clear hnx nx; with_reducible apply hnx; clear hnx nx)
    | (clear hnx nx; clear hnx nx; with_reducible apply hnx; clear hnx nx))
    refine hlp _ (l.length - (i + 1)) _ (by omega) ?_ ⟨i + 1, nm, by omega, rfl, rfl⟩
    rw [preE_succ id l i hi, List.length_append, List.map_append, hi2, hd16]
    exact Wk_fr (by simp only [wkb, simprocAttr]) ⟨by simp, by simp [names]⟩
  · repeat' (first
    | (with_reducible apply W_seq_k; intro nx hnx)
    | (with_reducible first | refine wr 3629 ?_)
    | ((with_reducible first | (apply WL_op; intro nx hnx) | refine Ev_out ?_ | refine wc ?_ | (refine pf hnm fun nm hnm => ?_; try simp only [fmb] at hnm) | (refine pm hnm fun nm hnm => ?_; try simp only [fmb] at hnm)); try (simp (maxSteps := 2000000) (disch := omega) only [ev, ↓evp, PV.cells, PV.one, PV.mem?, Value.cells, simprocAttr, hnm, Tryd.tf0, Tryd.tf3, Tryd.tf5, Tryd.tf27, Tryd.tf37, Tryd.tf58, Tryd.call23]))
    | ((with_reducible first | apply W_block | apply W_scope | apply WL_nil | apply W_label | apply W_skip | apply W_exit | apply W_ret) <;> try simp only [kks, simprocAttr])
    | (with_reducible apply pg <;> (intro hc; (try simp only [hcb, simprocAttr, ne_eq, forall_const] at hc); first | (exfalso; omega) | exact absurd trivial hc | skip))
    | (with_reducible apply hnx; clear hnx nx)
    | (with_reducible refine And.intro (by omega) ?_)
    | (with_reducible refine And.intro ?_ ?_)
    | (clear hnx nx; with_reducible apply hnx; clear hnx nx)
    | (clear hnx nx; clear hnx nx; with_reducible apply hnx; clear hnx nx))
    all_goals first
      | (exfalso
         omega)
      | (refine hfin _ _ (Fin_ret1 rfl (Sub_refl (by simp [names])) ?_); simp only [cob, simprocAttr]
         rw [preE_all id l i (by omega)]
         exact ⟨N, rfl, rfl⟩)
set_option maxRecDepth 100000 in
set_option maxHeartbeats 8000000 in
theorem rdigs_r (G : Globs) (l : List (List UInt8)) (hv : ∀ d ∈ l, d.length = 16) (hl : (encL id l).length ≤ 4294967296) (hl2 : l.length ≤ 4294967296) : PCalls Tryd.prog G 50 [.list 16 (l.map pdh)] [] (RowB (encL id l)) := by
  (refine PCalls_f Tryd.func50 rfl Tryd.ntmps50 Tryd.results50 (by simp) fun fin hfin => ?_; have hnm : True := trivial; simp only [ev, simprocAttr])
  repeat' (first
    | (with_reducible apply W_seq_k; intro nx hnx)
    | (with_reducible first | refine wr 61 ?_)
    | ((with_reducible first | (apply WL_op; intro nx hnx) | refine Ev_out ?_ | refine wc ?_ | (refine pf hnm fun nm hnm => ?_; try simp only [fmb] at hnm) | (refine pm hnm fun nm hnm => ?_; try simp only [fmb] at hnm)); try (simp (maxSteps := 2000000) (disch := omega) only [ev, ↓evp, PV.cells, PV.one, PV.mem?, Value.cells, simprocAttr, hnm, Tryd.tf0, Tryd.tf1, Tryd.tf3, Tryd.tf4, Tryd.tf5, Tryd.tf27, Tryd.tf37, Tryd.tf58, Tryd.call51]))
    | ((with_reducible first | apply W_block | apply W_scope | apply WL_nil | apply W_label | apply W_skip | apply W_exit | apply W_ret) <;> try simp only [kks, simprocAttr])
    | (with_reducible apply pg <;> (intro hc; (try simp only [hcb, simprocAttr, ne_eq, forall_const] at hc); first | (exfalso; omega) | exact absurd trivial hc | skip))
    | (with_reducible apply hnx; clear hnx nx)
    | (with_reducible refine And.intro (by omega) ?_)
    | (with_reducible refine And.intro ?_ ?_)
    | (clear hnx nx; with_reducible apply hnx; clear hnx nx)
    | (clear hnx nx; clear hnx nx; with_reducible apply hnx; clear hnx nx))
  refine pcall_k (rint_r G l.length (by omega) (by omega)) ?_
  rintro _ _ ⟨N0, rfl, rfl⟩ -
  refine Ev_in ?_
  repeat' (first
    | (with_reducible apply W_seq_k; intro nx hnx)
    | (with_reducible first | refine wr 61 ?_)
    | ((with_reducible first | (apply WL_op; intro nx hnx) | refine Ev_out ?_ | refine wc ?_ | (refine pf hnm fun nm hnm => ?_; try simp only [fmb] at hnm) | (refine pm hnm fun nm hnm => ?_; try simp only [fmb] at hnm)); try (simp (maxSteps := 2000000) (disch := omega) only [ev, ↓evp, PV.cells, PV.one, PV.mem?, Value.cells, simprocAttr, hnm, Tryd.tf0, Tryd.tf1, Tryd.tf3, Tryd.tf4, Tryd.tf5, Tryd.tf27, Tryd.tf37, Tryd.tf58, Tryd.call51]))
    | ((with_reducible first | apply W_block | apply W_scope | apply WL_nil | apply W_label | apply W_skip | apply W_exit | apply W_ret) <;> try simp only [kks, simprocAttr])
    | (with_reducible apply pg <;> (intro hc; (try simp only [hcb, simprocAttr, ne_eq, forall_const] at hc); first | (exfalso; omega) | exact absurd trivial hc | skip))
    | (with_reducible apply hnx; clear hnx nx)
    | (with_reducible refine And.intro (by omega) ?_)
    | (with_reducible refine And.intro ?_ ?_)
    | (clear hnx nx; with_reducible apply hnx; clear hnx nx)
    | (clear hnx nx; clear hnx nx; with_reducible apply hnx; clear hnx nx))
  refine W_loop_k (fun z τ => ∃ (i : Nat) (N : Int), i ≤ l.length ∧ z = l.length - i ∧ τ = ⟨fr 29 [(3, .row N 1 (preE id l i).length), (0, .list 16 (l.map pdh)), (4, pint .i64 i)], [(N, ⟨5, true, 1, (preE id l i).map pbyte⟩)]⟩) l.length ⟨fr 29 [(3, .row N0 1 (preE id l 0).length), (0, .list 16 (l.map pdh)), (4, pint .i64 (0 : Nat))], [(N0, ⟨5, true, 1, (preE id l 0).map pbyte⟩)]⟩ (by
    rw [preE_zero]
    exact Wk_fr (by simp only [wkb, simprocAttr]) ⟨by simp, by simp [names]⟩) ⟨0, N0, by omega, by omega, rfl⟩ ?_
  rintro z τ ⟨i, N, hi', rfl, rfl⟩ lp hlp
  have hle := preE_le id l (i + 1)
  by_cases hi : i < l.length
  · rw [preE_succ id l i hi, List.length_append] at hle
    obtain ⟨d, hd⟩ : ∃ d, l[i] = d := ⟨_, rfl⟩
    have hd16 : d.length = 16 := hd ▸ hv _ (List.getElem_mem hi)
    have hi2 : id l[i] = d := hd
    rw [hi2, hd16] at hle
    repeat' (first
    | (with_reducible apply W_seq_k; intro nx hnx)
    | (with_reducible first | refine wr 61 ?_)
    | ((with_reducible first | (apply WL_op; intro nx hnx) | refine Ev_out ?_ | refine wc ?_ | (refine pf hnm fun nm hnm => ?_; try simp only [fmb] at hnm) | (refine pm hnm fun nm hnm => ?_; try simp only [fmb] at hnm)); try (simp (maxSteps := 2000000) (disch := omega) only [ev, ↓evp, PV.cells, PV.one, PV.mem?, Value.cells, simprocAttr, hnm, Tryd.tf0, Tryd.tf1, Tryd.tf3, Tryd.tf4, Tryd.tf5, Tryd.tf27, Tryd.tf37, Tryd.tf58, Tryd.call51]))
    | ((with_reducible first | apply W_block | apply W_scope | apply WL_nil | apply W_label | apply W_skip | apply W_exit | apply W_ret) <;> try simp only [kks, simprocAttr])
    | (with_reducible apply pg <;> (intro hc; (try simp only [hcb, simprocAttr, ne_eq, forall_const] at hc); first | (exfalso; omega) | exact absurd trivial hc | skip))
    | (with_reducible apply hnx; clear hnx nx)
    | (with_reducible refine And.intro (by omega) ?_)
    | (with_reducible refine And.intro ?_ ?_)
    | (clear hnx nx; with_reducible apply hnx; clear hnx nx)
    | (clear hnx nx; clear hnx nx; with_reducible apply hnx; clear hnx nx))
    all_goals first
      | (exfalso
         omega)
      | skip
    refine W_loop_k (fun z τ => ∃ (j : Nat) (N : Int), j ≤ 16 ∧ z = 16 - j ∧ τ = ⟨fr 29 [(3, .row N 1 ((preE id l i).length + j)), (0, .list 16 (l.map pdh)), (4, pint .i64 i), (5, pint .i64 j)], [(N, ⟨5, true, 1, (preE id l i ++ d.take j).map pbyte⟩)]⟩) 16 ⟨fr 29 [(3, .row N 1 ((preE id l i).length + 0)), (0, .list 16 (l.map pdh)), (4, pint .i64 i), (5, pint .i64 (0 : Nat))], [(N, ⟨5, true, 1, (preE id l i ++ d.take 0).map pbyte⟩)]⟩ (by
      rw [List.take_zero, List.append_nil]
      exact Wk_fr (by simp only [wkb, simprocAttr, Nat.add_zero]) ⟨by simp, by simp [names]⟩) ⟨0, N, by omega, by omega, rfl⟩ ?_
    rintro z τ ⟨j, N2, hj, rfl, rfl⟩ lp2 hlp2
    by_cases hj2 : j < 16
    · have hjd : j < d.length := by omega
      have hpj : d[j]? = some d[j] := List.getElem?_eq_getElem hjd
      have htk : d.take (j + 1) = d.take j ++ [d[j]] := by
        rw [List.take_add_one, hpj]
        rfl
      have hlt : (d.take j).length = j := by rw [List.length_take]; omega
      repeat' (first
    | (with_reducible apply W_seq_k; intro nx hnx)
    | (with_reducible first | refine wr 61 ?_)
    | ((with_reducible first | (apply WL_op; intro nx hnx) | refine Ev_out ?_ | refine wc ?_ | (refine pf hnm fun nm hnm => ?_; try simp only [fmb] at hnm) | (refine pm hnm fun nm hnm => ?_; try simp only [fmb] at hnm)); try (simp (maxSteps := 2000000) (disch := omega) only [ev, ↓evp, PV.cells, PV.one, PV.mem?, Value.cells, simprocAttr, hnm, Tryd.tf0, Tryd.tf1, Tryd.tf3, Tryd.tf4, Tryd.tf5, Tryd.tf27, Tryd.tf37, Tryd.tf58, Tryd.call51, hd, hpj, hd16, hlt, List.length_append]))
    | ((with_reducible first | apply W_block | apply W_scope | apply WL_nil | apply W_label | apply W_skip | apply W_exit | apply W_ret) <;> try simp only [kks, simprocAttr])
    | (with_reducible apply pg <;> (intro hc; (try simp only [hcb, simprocAttr, ne_eq, forall_const] at hc); first | (exfalso; omega) | exact absurd trivial hc | skip))
    | (with_reducible apply hnx; clear hnx nx)
    | (with_reducible refine And.intro (by omega) ?_)
    | (with_reducible refine And.intro ?_ ?_)
    | (clear hnx nx; with_reducible apply hnx; clear hnx nx)
    | (clear hnx nx; clear hnx nx; with_reducible apply hnx; clear hnx nx))
      all_goals first
        | (exfalso
           omega)
        | (refine hlp2 _ (16 - (j + 1)) _ (by omega) ?_ ⟨j + 1, nm, by omega, rfl, rfl⟩
           rw [← Nat.add_assoc]
           refine Wk_fr (by simp only [wkb, simprocAttr]) ?_
           refine ⟨fun x hx => ?_, by simp [names]⟩
           simp only [List.mem_cons, List.not_mem_nil, or_false] at hx ⊢
           subst hx
           left
           rw [htk, ← List.append_assoc, List.map_append (l₂ := [d[j]])]
           rfl)
    · repeat' (first
    | (with_reducible apply W_seq_k; intro nx hnx)
    | (with_reducible first | refine wr 61 ?_)
    | ((with_reducible first | (apply WL_op; intro nx hnx) | refine Ev_out ?_ | refine wc ?_ | (refine pf hnm fun nm hnm => ?_; try simp only [fmb] at hnm) | (refine pm hnm fun nm hnm => ?_; try simp only [fmb] at hnm)); try (simp (maxSteps := 2000000) (disch := omega) only [ev, ↓evp, PV.cells, PV.one, PV.mem?, Value.cells, simprocAttr, hnm, Tryd.tf0, Tryd.tf1, Tryd.tf3, Tryd.tf4, Tryd.tf5, Tryd.tf27, Tryd.tf37, Tryd.tf58, Tryd.call51]))
    | ((with_reducible first | apply W_block | apply W_scope | apply WL_nil | apply W_label | apply W_skip | apply W_exit | apply W_ret) <;> try simp only [kks, simprocAttr])
    | (with_reducible apply pg <;> (intro hc; (try simp only [hcb, simprocAttr, ne_eq, forall_const] at hc); first | (exfalso; omega) | exact absurd trivial hc | skip))
    | (with_reducible apply hnx; clear hnx nx)
    | (with_reducible refine And.intro (by omega) ?_)
    | (with_reducible refine And.intro ?_ ?_)
    | (clear hnx nx; with_reducible apply hnx; clear hnx nx)
    | (clear hnx nx; clear hnx nx; with_reducible apply hnx; clear hnx nx))
      all_goals first
        | (exfalso
           omega)
        | (refine hlp _ (l.length - (i + 1)) _ (by omega) ?_ ⟨i + 1, N2, by omega, rfl, rfl⟩
           have hj16 : j = 16 := by omega
           subst hj16
           rw [preE_succ id l i hi, List.length_append, hi2, hd16, List.take_of_length_le (by omega)]
           exact Wk_fr (by simp only [wkb, simprocAttr]) ⟨by simp, by simp [names]⟩)
  · repeat' (first
    | (with_reducible apply W_seq_k; intro nx hnx)
    | (with_reducible first | refine wr 61 ?_)
    | ((with_reducible first | (apply WL_op; intro nx hnx) | refine Ev_out ?_ | refine wc ?_ | (refine pf hnm fun nm hnm => ?_; try simp only [fmb] at hnm) | (refine pm hnm fun nm hnm => ?_; try simp only [fmb] at hnm)); try (simp (maxSteps := 2000000) (disch := omega) only [ev, ↓evp, PV.cells, PV.one, PV.mem?, Value.cells, simprocAttr, hnm, Tryd.tf0, Tryd.tf1, Tryd.tf3, Tryd.tf4, Tryd.tf5, Tryd.tf27, Tryd.tf37, Tryd.tf58, Tryd.call51]))
    | ((with_reducible first | apply W_block | apply W_scope | apply WL_nil | apply W_label | apply W_skip | apply W_exit | apply W_ret) <;> try simp only [kks, simprocAttr])
    | (with_reducible apply pg <;> (intro hc; (try simp only [hcb, simprocAttr, ne_eq, forall_const] at hc); first | (exfalso; omega) | exact absurd trivial hc | skip))
    | (with_reducible apply hnx; clear hnx nx)
    | (with_reducible refine And.intro (by omega) ?_)
    | (with_reducible refine And.intro ?_ ?_)
    | (clear hnx nx; with_reducible apply hnx; clear hnx nx)
    | (clear hnx nx; clear hnx nx; with_reducible apply hnx; clear hnx nx))
    all_goals first
      | (exfalso
         omega)
      | (refine hfin _ _ (Fin_ret1 rfl (Sub_refl (by simp [names])) ?_); simp only [cob, simprocAttr]
         rw [preE_all id l i (by omega)]
         exact ⟨N, rfl, rfl⟩)
end Go.PM

namespace Go.PM
open Go.Proofs
attribute [local irreducible] W PCalls pcall pcallI WL
/-- A copy: a row, or none. -/
def CR (b : List UInt8) (res : PV) (H : Heap) : Prop := (b = [] ∧ res = pnil ∧ H = []) ∨ RowB b res H
theorem CR.frz {G : Globs} {f : FuncId} {args : List PV} {b : List UInt8} (h : PCalls Tryd.prog G f args [] (CR b)) : PCalls Tryd.prog G f args [] (fun res H => res = .list 1 (b.map pbyte) ∧ H = []) := by
  refine h.px fun res H hR => ?_
  rcases hR with ⟨rfl, rfl, rfl⟩ | ⟨N, rfl, rfl⟩
  · exact ⟨_, _, Px.nil 1 _, rfl, rfl⟩
  · have h2 := Px.freeze (G := G) (.row N 1 b.length) [(N, ⟨5, true, 1, b.map pbyte⟩)] N (o := ⟨5, true, 1, b.map pbyte⟩) (by simp only [look, if_true]) (by simp [frzOk, del])
    refine ⟨_, _, h2, ?_, by simp [frzH, del]⟩
    simp only [PM.frz, frz1, if_true]
    rw [if_pos ⟨by simp, by omega⟩, elemsOf, if_pos rfl, List.take_of_length_le (by simp)]
set_option maxRecDepth 100000 in
set_option maxHeartbeats 8000000 in
/-- An empty row with room, or none. -/
theorem grow_c (G : Globs) (n : Nat) (hn : n ≤ 4294967296) : PCalls Tryd.prog G 39 [pnil, pint .i64 n] [] (CR []) := by
  (refine PCalls_f Tryd.func39 rfl Tryd.ntmps39 Tryd.results39 (by simp) fun fin hfin => ?_; have hnm : True := trivial; simp only [ev, simprocAttr])
  repeat' (first
    | (with_reducible apply W_seq_k; intro nx hnx)
    | (with_reducible first | refine wr 19 ?_)
    | ((with_reducible first | (apply WL_op; intro nx hnx) | refine Ev_out ?_ | refine wc ?_ | (refine pf hnm fun nm hnm => ?_; try simp only [fmb] at hnm) | (refine pm hnm fun nm hnm => ?_; try simp only [fmb] at hnm)); try (simp (maxSteps := 2000000) (disch := omega) only [ev, ↓evp, PV.cells, PV.one, PV.mem?, Value.cells, simprocAttr, hnm, Tryd.tf0, Tryd.tf3, Tryd.tf4, Tryd.tf5, Tryd.tf9, Tryd.tf20, Tryd.tf27]))
    | ((with_reducible first | apply W_block | apply W_scope | apply WL_nil | apply W_label | apply W_skip | apply W_exit | apply W_ret) <;> try simp only [kks, simprocAttr])
    | (with_reducible apply pg <;> (intro hc; (try simp only [hcb, simprocAttr, ne_eq, forall_const] at hc); first | (exfalso; omega) | exact absurd trivial hc | skip))
    | (with_reducible apply hnx; clear hnx nx)
    | (with_reducible refine And.intro (by omega) ?_)
    | (with_reducible refine And.intro ?_ ?_)
    | (clear hnx nx; with_reducible apply hnx; clear hnx nx)
    | (clear hnx nx; clear hnx nx; with_reducible apply hnx; clear hnx nx))
  all_goals first
    | (exfalso
       omega)
    | skip
  · refine hfin _ _ (Fin_ret1 rfl (Sub_refl (by simp [names])) ?_); simp only [cob, simprocAttr]
    exact .inr ⟨nm, rfl, rfl⟩
  · refine hfin _ _ (Fin_ret1 rfl (Sub_nil _) ?_); simp only [cob, simprocAttr]
    exact .inl ⟨rfl, rfl, rfl⟩
/-- Bytes that nobody turns. -/
@[reducible] def pl (x : List UInt8) : PV := .list 1 (x.map pbyte)
def lenS (xs : List (List UInt8)) : Nat := (xs.map List.length).sum
theorem lenS_take (xs : List (List UInt8)) (i : Nat) (h : i < xs.length) : lenS (xs.take (i + 1)) = lenS (xs.take i) + xs[i].length := by
  rw [List.take_add_one, List.getElem?_eq_getElem h]
  unfold lenS
  rw [List.map_append, List.sum_append]
  rfl
theorem lenS_le (xs : List (List UInt8)) (i : Nat) : lenS (xs.take i) ≤ lenS xs := by
  have h : lenS xs = lenS (xs.take i) + lenS (xs.drop i) := by
    conv => lhs; rw [← List.take_append_drop i xs]
    unfold lenS
    rw [List.map_append, List.sum_append]
  omega
theorem lenS_flat (xs : List (List UInt8)) : xs.flatten.length = lenS xs := by simp [lenS, List.length_flatten]
theorem flat_take (xs : List (List UInt8)) (i : Nat) (h : i < xs.length) : (xs.take (i + 1)).flatten = (xs.take i).flatten ++ xs[i] := by
  rw [List.take_add_one, List.getElem?_eq_getElem h, List.flatten_append]
  congr 1
  show [xs[i]].flatten = _
  simp
set_option maxRecDepth 100000 in
set_option maxHeartbeats 8000000 in
theorem concat_r (G : Globs) (xs : List (List UInt8)) (hx : xs.length ≤ 1000) (hb : lenS xs ≤ 4294967296) : PCalls Tryd.prog G 24 [.list 1 (xs.map pl)] [] (CR xs.flatten) := by
  (refine PCalls_f Tryd.func24 rfl Tryd.ntmps24 Tryd.results24 (by simp) fun fin hfin => ?_; have hnm : True := trivial; simp only [ev, simprocAttr])
  repeat' (first
    | (with_reducible apply W_seq_k; intro nx hnx)
    | (with_reducible first | refine wr 234884973 ?_)
    | ((with_reducible first | (apply WL_op; intro nx hnx) | refine Ev_out ?_ | refine wc ?_ | (refine pf hnm fun nm hnm => ?_; try simp only [fmb] at hnm) | (refine pm hnm fun nm hnm => ?_; try simp only [fmb] at hnm)); try (simp (maxSteps := 2000000) (disch := omega) only [ev, ↓evp, PV.cells, PV.one, PV.mem?, Value.cells, simprocAttr, hnm, Tryd.tf0, Tryd.tf3, Tryd.tf4, Tryd.tf5, Tryd.tf9, Tryd.tf20, Tryd.tf27, Tryd.tf87, Tryd.call39]))
    | ((with_reducible first | apply W_block | apply W_scope | apply WL_nil | apply W_label | apply W_skip | apply W_exit | apply W_ret) <;> try simp only [kks, simprocAttr])
    | (with_reducible apply pg <;> (intro hc; (try simp only [hcb, simprocAttr, ne_eq, forall_const] at hc); first | (exfalso; omega) | exact absurd trivial hc | skip))
    | (with_reducible apply hnx; clear hnx nx)
    | (with_reducible refine And.intro (by omega) ?_)
    | (with_reducible refine And.intro ?_ ?_)
    | (clear hnx nx; with_reducible apply hnx; clear hnx nx)
    | (clear hnx nx; clear hnx nx; with_reducible apply hnx; clear hnx nx))
  refine W_loop_k (fun z τ => ∃ (i : Nat), i ≤ xs.length ∧ z = xs.length - i ∧ τ = ⟨fr 36 [(0, .list 1 (xs.map pl)), (9, .list 1 (xs.map pl)), (10, pint .i64 xs.length), (11, pint .i64 i), (3, pint .i64 (lenS (xs.take i)))], []⟩) xs.length
    ⟨fr 36 [(0, .list 1 (xs.map pl)), (9, .list 1 (xs.map pl)), (10, pint .i64 xs.length), (11, pint .i64 (0 : Nat)), (3, pint .i64 (0 : Nat))], []⟩ (by
    refine Wk_fr (by simp only [wkb, simprocAttr]) ?_
    exact ⟨by simp, by simp [names]⟩) ⟨0, by omega, by omega, rfl⟩ ?_
  rintro z τ ⟨i, hi, rfl, rfl⟩ lp hlp
  have hle := lenS_le xs (i + 1)
  by_cases hik : i < xs.length
  · have ht := lenS_take xs i hik
    repeat' (first
    | (with_reducible apply W_seq_k; intro nx hnx)
    | (with_reducible first | refine wr 234884973 ?_)
    | ((with_reducible first | (apply WL_op; intro nx hnx) | refine Ev_out ?_ | refine wc ?_ | (refine pf hnm fun nm hnm => ?_; try simp only [fmb] at hnm) | (refine pm hnm fun nm hnm => ?_; try simp only [fmb] at hnm)); try (simp (maxSteps := 2000000) (disch := omega) only [ev, ↓evp, PV.cells, PV.one, PV.mem?, Value.cells, simprocAttr, hnm, Tryd.tf0, Tryd.tf3, Tryd.tf4, Tryd.tf5, Tryd.tf9, Tryd.tf20, Tryd.tf27, Tryd.tf87, Tryd.call39]))
    | ((with_reducible first | apply W_block | apply W_scope | apply WL_nil | apply W_label | apply W_skip | apply W_exit | apply W_ret) <;> try simp only [kks, simprocAttr])
    | (with_reducible apply pg <;> (intro hc; (try simp only [hcb, simprocAttr, ne_eq, forall_const] at hc); first | (exfalso; omega) | exact absurd trivial hc | skip))
    | (with_reducible apply hnx; clear hnx nx)
    | (with_reducible refine And.intro (by omega) ?_)
    | (with_reducible refine And.intro ?_ ?_)
    | (clear hnx nx; with_reducible apply hnx; clear hnx nx)
    | (clear hnx nx; clear hnx nx; with_reducible apply hnx; clear hnx nx))
    all_goals first
      | (exfalso
         omega)
      | (refine hlp _ (xs.length - (i + 1)) _ (by omega) ?_ ⟨i + 1, by omega, rfl, rfl⟩
         rw [ht]
         refine Wk_fr (by simp only [wkb, simprocAttr]) ?_
         exact ⟨by simp, by simp [names]⟩)
  · rw [List.take_of_length_le (by omega)]
    clear hlp hle
    repeat' (first
    | (with_reducible apply W_seq_k; intro nx hnx)
    | (with_reducible first | refine wr 234884973 ?_)
    | ((with_reducible first | (apply WL_op; intro nx hnx) | refine Ev_out ?_ | refine wc ?_ | (refine pf hnm fun nm hnm => ?_; try simp only [fmb] at hnm) | (refine pm hnm fun nm hnm => ?_; try simp only [fmb] at hnm)); try (simp (maxSteps := 2000000) (disch := omega) only [ev, ↓evp, PV.cells, PV.one, PV.mem?, Value.cells, simprocAttr, hnm, Tryd.tf0, Tryd.tf3, Tryd.tf4, Tryd.tf5, Tryd.tf9, Tryd.tf20, Tryd.tf27, Tryd.tf87, Tryd.call39]))
    | ((with_reducible first | apply W_block | apply W_scope | apply WL_nil | apply W_label | apply W_skip | apply W_exit | apply W_ret) <;> try simp only [kks, simprocAttr])
    | (with_reducible apply pg <;> (intro hc; (try simp only [hcb, simprocAttr, ne_eq, forall_const] at hc); first | (exfalso; omega) | exact absurd trivial hc | skip))
    | (with_reducible apply hnx; clear hnx nx)
    | (with_reducible refine And.intro (by omega) ?_)
    | (with_reducible refine And.intro ?_ ?_)
    | (clear hnx nx; with_reducible apply hnx; clear hnx nx)
    | (clear hnx nx; clear hnx nx; with_reducible apply hnx; clear hnx nx))
    all_goals first
      | (exfalso
         omega)
      | skip
    refine pcall_k (grow_c G (lenS xs) hb) ?_
    intro res Hout hR hnew
    have two : (res = pnil ∧ Hout = []) ∨ ∃ N0, res = .row N0 1 0 ∧ Hout = [(N0, ⟨5, true, 1, []⟩)] := by
      rcases hR with ⟨_, h1, h2⟩ | ⟨N0, h1, h2⟩
      · exact .inl ⟨h1, h2⟩
      · exact .inr ⟨N0, h1, h2⟩
    clear hR hnew
    rcases two with ⟨rfl, rfl⟩ | ⟨N0, rfl, rfl⟩
    · refine Ev_in ?_
      repeat' (first
    | (with_reducible apply W_seq_k; intro nx hnx)
    | (with_reducible first | refine wr 234884973 ?_)
    | ((with_reducible first | (apply WL_op; intro nx hnx) | refine Ev_out ?_ | refine wc ?_ | (refine pf hnm fun nm hnm => ?_; try simp only [fmb] at hnm) | (refine pm hnm fun nm hnm => ?_; try simp only [fmb] at hnm)); try (simp (maxSteps := 2000000) (disch := omega) only [ev, ↓evp, PV.cells, PV.one, PV.mem?, Value.cells, simprocAttr, hnm, Tryd.tf0, Tryd.tf3, Tryd.tf4, Tryd.tf5, Tryd.tf9, Tryd.tf20, Tryd.tf27, Tryd.tf87, Tryd.call39]))
    | ((with_reducible first | apply W_block | apply W_scope | apply WL_nil | apply W_label | apply W_skip | apply W_exit | apply W_ret) <;> try simp only [kks, simprocAttr])
    | (with_reducible apply pg <;> (intro hc; (try simp only [hcb, simprocAttr, ne_eq, forall_const] at hc); first | (exfalso; omega) | exact absurd trivial hc | skip))
    | (with_reducible apply hnx; clear hnx nx)
    | (with_reducible refine And.intro (by omega) ?_)
    | (with_reducible refine And.intro ?_ ?_)
    | (clear hnx nx; with_reducible apply hnx; clear hnx nx)
    | (clear hnx nx; clear hnx nx; with_reducible apply hnx; clear hnx nx))
      refine W_adopt_f 6 5 1 (by simp only [fr_getD_cons, Nat.reduceEqDiff, Nat.reduceLT, ↓reduceIte]) fun N0 hN0 => ?_
      refine W_loop_k (fun z τ => ∃ (i : Nat) (N : Int) (o : List UInt8), i ≤ xs.length ∧ z = xs.length - i ∧ o = (xs.take i).flatten ∧ τ = ⟨fr 36 [(25, .list 1 (xs.map pl)), (26, pint .i64 xs.length), (27, pint .i64 i), (6, .row N 1 o.length)], [(N, ⟨5, true, 1, o.map pbyte⟩)]⟩) xs.length
        ⟨fr 36 [(25, .list 1 (xs.map pl)), (26, pint .i64 xs.length), (27, pint .i64 (0 : Nat)), (6, .row N0 1 0)], [(N0, ⟨5, true, 1, []⟩)]⟩ (by
        refine Wk_fr (by simp only [wkb, simprocAttr]) ?_
        exact ⟨by simp, by simp [names]⟩) ⟨0, N0, [], by omega, by omega, by simp, rfl⟩ ?_
      rintro z τ ⟨k, N, o, hk, rfl, ho, rfl⟩ lp hlp
      have hol : o.length = lenS (xs.take k) := by rw [ho, lenS_flat]
      have hle := lenS_le xs (k + 1)
      by_cases hkk : k < xs.length
      · have ht := lenS_take xs k hkk
        have hf := flat_take xs k hkk
        repeat' (first
    | (with_reducible apply W_seq_k; intro nx hnx)
    | (with_reducible first | refine wr 234884973 ?_)
    | ((with_reducible first | (apply WL_op; intro nx hnx) | refine Ev_out ?_ | refine wc ?_ | (refine pf hnm fun nm hnm => ?_; try simp only [fmb] at hnm) | (refine pm hnm fun nm hnm => ?_; try simp only [fmb] at hnm)); try (simp (maxSteps := 2000000) (disch := omega) only [ev, ↓evp, PV.cells, PV.one, PV.mem?, Value.cells, simprocAttr, hnm, Tryd.tf0, Tryd.tf3, Tryd.tf4, Tryd.tf5, Tryd.tf9, Tryd.tf20, Tryd.tf27, Tryd.tf87, Tryd.call39, flat_pb]))
    | ((with_reducible first | apply W_block | apply W_scope | apply WL_nil | apply W_label | apply W_skip | apply W_exit | apply W_ret) <;> try simp only [kks, simprocAttr])
    | (with_reducible apply pg <;> (intro hc; (try simp only [hcb, simprocAttr, ne_eq, forall_const] at hc); first | (exfalso; omega) | exact absurd trivial hc | skip))
    | (with_reducible apply hnx; clear hnx nx)
    | (with_reducible refine And.intro (by omega) ?_)
    | (with_reducible refine And.intro ?_ ?_)
    | (clear hnx nx; with_reducible apply hnx; clear hnx nx)
    | (clear hnx nx; clear hnx nx; with_reducible apply hnx; clear hnx nx))
        all_goals first
          | (exfalso
             omega)
          | (refine hlp _ (xs.length - (k + 1)) _ (by omega) ?_ ⟨k + 1, nm, o ++ xs[k], by omega, rfl, by rw [hf, ho], rfl⟩
             rw [List.length_append, List.map_append]
             refine Wk_fr (by simp only [wkb, simprocAttr]) ?_
             exact ⟨by simp, by simp [names]⟩)
      · have hox : o = xs.flatten := by rw [ho, List.take_of_length_le (by omega)]
        rw [← hox] at hfin
        repeat' (first
    | (with_reducible apply W_seq_k; intro nx hnx)
    | (with_reducible first | refine wr 234884973 ?_)
    | ((with_reducible first | (apply WL_op; intro nx hnx) | refine Ev_out ?_ | refine wc ?_ | (refine pf hnm fun nm hnm => ?_; try simp only [fmb] at hnm) | (refine pm hnm fun nm hnm => ?_; try simp only [fmb] at hnm)); try (simp (maxSteps := 2000000) (disch := omega) only [ev, ↓evp, PV.cells, PV.one, PV.mem?, Value.cells, simprocAttr, hnm, Tryd.tf0, Tryd.tf3, Tryd.tf4, Tryd.tf5, Tryd.tf9, Tryd.tf20, Tryd.tf27, Tryd.tf87, Tryd.call39]))
    | ((with_reducible first | apply W_block | apply W_scope | apply WL_nil | apply W_label | apply W_skip | apply W_exit | apply W_ret) <;> try simp only [kks, simprocAttr])
    | (with_reducible apply pg <;> (intro hc; (try simp only [hcb, simprocAttr, ne_eq, forall_const] at hc); first | (exfalso; omega) | exact absurd trivial hc | skip))
    | (with_reducible apply hnx; clear hnx nx)
    | (with_reducible refine And.intro (by omega) ?_)
    | (with_reducible refine And.intro ?_ ?_)
    | (clear hnx nx; with_reducible apply hnx; clear hnx nx)
    | (clear hnx nx; clear hnx nx; with_reducible apply hnx; clear hnx nx))
        all_goals first
          | (exfalso
             omega)
          | (refine hfin _ _ (Fin_ret1 rfl (Sub_refl (by simp [names])) ?_); simp only [cob, simprocAttr]
             exact .inr ⟨N, rfl, rfl⟩)
    · refine Ev_in ?_
      repeat' (first
    | (with_reducible apply W_seq_k; intro nx hnx)
    | (with_reducible first | refine wr 234884973 ?_)
    | ((with_reducible first | (apply WL_op; intro nx hnx) | refine Ev_out ?_ | refine wc ?_ | (refine pf hnm fun nm hnm => ?_; try simp only [fmb] at hnm) | (refine pm hnm fun nm hnm => ?_; try simp only [fmb] at hnm)); try (simp (maxSteps := 2000000) (disch := omega) only [ev, ↓evp, PV.cells, PV.one, PV.mem?, Value.cells, simprocAttr, hnm, Tryd.tf0, Tryd.tf3, Tryd.tf4, Tryd.tf5, Tryd.tf9, Tryd.tf20, Tryd.tf27, Tryd.tf87, Tryd.call39]))
    | ((with_reducible first | apply W_block | apply W_scope | apply WL_nil | apply W_label | apply W_skip | apply W_exit | apply W_ret) <;> try simp only [kks, simprocAttr])
    | (with_reducible apply pg <;> (intro hc; (try simp only [hcb, simprocAttr, ne_eq, forall_const] at hc); first | (exfalso; omega) | exact absurd trivial hc | skip))
    | (with_reducible apply hnx; clear hnx nx)
    | (with_reducible refine And.intro (by omega) ?_)
    | (with_reducible refine And.intro ?_ ?_)
    | (clear hnx nx; with_reducible apply hnx; clear hnx nx)
    | (clear hnx nx; clear hnx nx; with_reducible apply hnx; clear hnx nx))
      refine W_loop_k (fun z τ => ∃ (i : Nat) (N : Int) (o : List UInt8), i ≤ xs.length ∧ z = xs.length - i ∧ o = (xs.take i).flatten ∧ τ = ⟨fr 36 [(25, .list 1 (xs.map pl)), (26, pint .i64 xs.length), (27, pint .i64 i), (6, .row N 1 o.length)], [(N, ⟨5, true, 1, o.map pbyte⟩)]⟩) xs.length
        ⟨fr 36 [(25, .list 1 (xs.map pl)), (26, pint .i64 xs.length), (27, pint .i64 (0 : Nat)), (6, .row N0 1 0)], [(N0, ⟨5, true, 1, []⟩)]⟩ (by
        refine Wk_fr (by simp only [wkb, simprocAttr]) ?_
        exact ⟨by simp, by simp [names]⟩) ⟨0, N0, [], by omega, by omega, by simp, rfl⟩ ?_
      rintro z τ ⟨k, N, o, hk, rfl, ho, rfl⟩ lp hlp
      have hol : o.length = lenS (xs.take k) := by rw [ho, lenS_flat]
      have hle := lenS_le xs (k + 1)
      by_cases hkk : k < xs.length
      · have ht := lenS_take xs k hkk
        have hf := flat_take xs k hkk
        repeat' (first
    | (with_reducible apply W_seq_k; intro nx hnx)
    | (with_reducible first | refine wr 234884973 ?_)
    | ((with_reducible first | (apply WL_op; intro nx hnx) | refine Ev_out ?_ | refine wc ?_ | (refine pf hnm fun nm hnm => ?_; try simp only [fmb] at hnm) | (refine pm hnm fun nm hnm => ?_; try simp only [fmb] at hnm)); try (simp (maxSteps := 2000000) (disch := omega) only [ev, ↓evp, PV.cells, PV.one, PV.mem?, Value.cells, simprocAttr, hnm, Tryd.tf0, Tryd.tf3, Tryd.tf4, Tryd.tf5, Tryd.tf9, Tryd.tf20, Tryd.tf27, Tryd.tf87, Tryd.call39, flat_pb]))
    | ((with_reducible first | apply W_block | apply W_scope | apply WL_nil | apply W_label | apply W_skip | apply W_exit | apply W_ret) <;> try simp only [kks, simprocAttr])
    | (with_reducible apply pg <;> (intro hc; (try simp only [hcb, simprocAttr, ne_eq, forall_const] at hc); first | (exfalso; omega) | exact absurd trivial hc | skip))
    | (with_reducible apply hnx; clear hnx nx)
    | (with_reducible refine And.intro (by omega) ?_)
    | (with_reducible refine And.intro ?_ ?_)
    | (clear hnx nx; with_reducible apply hnx; clear hnx nx)
    | (clear hnx nx; clear hnx nx; with_reducible apply hnx; clear hnx nx))
        all_goals first
          | (exfalso
             omega)
          | (refine hlp _ (xs.length - (k + 1)) _ (by omega) ?_ ⟨k + 1, nm, o ++ xs[k], by omega, rfl, by rw [hf, ho], rfl⟩
             rw [List.length_append, List.map_append]
             refine Wk_fr (by simp only [wkb, simprocAttr]) ?_
             exact ⟨by simp, by simp [names]⟩)
      · have hox : o = xs.flatten := by rw [ho, List.take_of_length_le (by omega)]
        rw [← hox] at hfin
        repeat' (first
    | (with_reducible apply W_seq_k; intro nx hnx)
    | (with_reducible first | refine wr 234884973 ?_)
    | ((with_reducible first | (apply WL_op; intro nx hnx) | refine Ev_out ?_ | refine wc ?_ | (refine pf hnm fun nm hnm => ?_; try simp only [fmb] at hnm) | (refine pm hnm fun nm hnm => ?_; try simp only [fmb] at hnm)); try (simp (maxSteps := 2000000) (disch := omega) only [ev, ↓evp, PV.cells, PV.one, PV.mem?, Value.cells, simprocAttr, hnm, Tryd.tf0, Tryd.tf3, Tryd.tf4, Tryd.tf5, Tryd.tf9, Tryd.tf20, Tryd.tf27, Tryd.tf87, Tryd.call39]))
    | ((with_reducible first | apply W_block | apply W_scope | apply WL_nil | apply W_label | apply W_skip | apply W_exit | apply W_ret) <;> try simp only [kks, simprocAttr])
    | (with_reducible apply pg <;> (intro hc; (try simp only [hcb, simprocAttr, ne_eq, forall_const] at hc); first | (exfalso; omega) | exact absurd trivial hc | skip))
    | (with_reducible apply hnx; clear hnx nx)
    | (with_reducible refine And.intro (by omega) ?_)
    | (with_reducible refine And.intro ?_ ?_)
    | (clear hnx nx; with_reducible apply hnx; clear hnx nx)
    | (clear hnx nx; clear hnx nx; with_reducible apply hnx; clear hnx nx))
        all_goals first
          | (exfalso
             omega)
          | (refine hfin _ _ (Fin_ret1 rfl (Sub_refl (by simp [names])) ?_); simp only [cob, simprocAttr]
             exact .inr ⟨N, rfl, rfl⟩)
theorem concat_c (G : Globs) (xs : List (List UInt8)) (hx : xs.length ≤ 1000) (hb : lenS xs ≤ 4294967296) : PCalls Tryd.prog G 24 [.list 1 (xs.map pl)] [] (fun res H => res = pl xs.flatten ∧ H = []) := CR.frz (concat_r G xs hx hb)
end Go.PM

namespace Go.PM
open Go.Proofs
attribute [local irreducible] W PCalls pcall pcallI WL
set_option maxRecDepth 100000 in
set_option maxHeartbeats 8000000 in
theorem valid_c (G : Globs) (n : Int) : PCalls Tryd.prog G 40 [pint .i64 n] [] (fun res H => res = pbool (decide (0 ≤ n ∧ n ≤ 6)) ∧ H = []) := by
  (refine PCalls_f Tryd.func40 rfl Tryd.ntmps40 Tryd.results40 (by simp) fun fin hfin => ?_; have hnm : True := trivial; simp only [ev, simprocAttr])
  by_cases h1 : 0 ≤ n <;> by_cases h2 : n ≤ 6
  all_goals
    repeat' (first
    | (with_reducible apply W_seq_k; intro nx hnx)
    | (with_reducible first | refine wr 5 ?_)
    | ((with_reducible first | (apply WL_op; intro nx hnx) | refine Ev_out ?_ | refine wc ?_); try (simp (maxSteps := 2000000) (disch := omega) only [ev, ↓evp, PV.cells, PV.one, PV.mem?, Value.cells, simprocAttr, hnm, Tryd.tf3, Tryd.tf4, h1, h2]))
    | ((with_reducible first | apply W_block | apply W_scope | apply WL_nil | apply W_label | apply W_skip | apply W_exit | apply W_ret) <;> try simp only [kks, simprocAttr])
    | (with_reducible apply pg <;> (intro hc; (try simp only [hcb, simprocAttr, ne_eq, forall_const] at hc); first | (exfalso; omega) | exact absurd trivial hc | skip))
    | (with_reducible apply hnx; clear hnx nx)
    | (with_reducible refine And.intro (by omega) ?_)
    | (with_reducible refine And.intro ?_ ?_)
    | (clear hnx nx; with_reducible apply hnx; clear hnx nx)
    | (clear hnx nx; clear hnx nx; with_reducible apply hnx; clear hnx nx))
    (refine hfin _ _ (Fin_ret1 rfl (Sub_nil _) ?_); simp only [cob, simprocAttr]; first | trivial | exact ⟨rfl, by trivial⟩ | (simp; done) | (simp; omega))
set_option maxRecDepth 100000 in
set_option maxHeartbeats 8000000 in
theorem fits_c (G : Globs) (s : List UInt8) (n : Int) (hs : s.length ≤ 4294967296) : PCalls Tryd.prog G 70 [pstr s, pint .i64 n] [] (fun res H => res = pbool (decide (s.length = 32 ∧ 0 ≤ n ∧ n ≤ 6)) ∧ H = []) := by
  (refine PCalls_f Tryd.func70 rfl Tryd.ntmps70 Tryd.results70 (by simp) fun fin hfin => ?_; have hnm : True := trivial; simp only [ev, simprocAttr])
  by_cases h0 : s.length = 32 <;> by_cases h1 : 0 ≤ n <;> by_cases h2 : n ≤ 6
  all_goals
    repeat' (first
    | (with_reducible apply W_seq_k; intro nx hnx)
    | (with_reducible first | refine wr 19 ?_)
    | ((with_reducible first | (apply WL_op; intro nx hnx) | refine Ev_out ?_ | refine wc ?_); try (simp (maxSteps := 2000000) (disch := omega) only [ev, ↓evp, PV.cells, PV.one, PV.mem?, Value.cells, simprocAttr, hnm, Tryd.tf3, Tryd.tf4, Tryd.tf9, h0, h1, h2]))
    | ((with_reducible first | apply W_block | apply W_scope | apply WL_nil | apply W_label | apply W_skip | apply W_exit | apply W_ret) <;> try simp only [kks, simprocAttr])
    | (with_reducible apply pg <;> (intro hc; (try simp only [hcb, simprocAttr, ne_eq, forall_const] at hc); first | (exfalso; omega) | exact absurd trivial hc | skip))
    | (with_reducible apply hnx; clear hnx nx)
    | (with_reducible refine And.intro (by omega) ?_)
    | (with_reducible refine And.intro ?_ ?_)
    | (clear hnx nx; with_reducible apply hnx; clear hnx nx)
    | (clear hnx nx; clear hnx nx; with_reducible apply hnx; clear hnx nx))
    all_goals first
      | (intro hh
         exfalso
         simp at hh
         done)
      | (intro hh
         exfalso
         simp at hh
         omega)
      | (refine hfin _ _ (Fin_ret1 rfl (Sub_nil _) ?_); simp only [cob, simprocAttr]; first | trivial | exact ⟨rfl, by trivial⟩ | (simp; done) | (simp; omega))
/-- The encoding of numbers. -/
def encI (l : List Int) : List UInt8 := encL intB l
theorem encI_len {l : List Int} (hv : ∀ n ∈ l, inR n) (h : l.length ≤ 4) : (encI l).length ≤ 45 := by
  have h0 := intB_len9 (n := l.length) ⟨by omega, by omega⟩
  have h1 : (l.flatMap intB).length ≤ l.length * 9 := by
    clear h h0
    induction l with
    | nil => simp
    | cons x l ih =>
      have := intB_len9 (hv x (by simp))
      have := ih fun n hn => hv n (by simp [hn])
      simp only [List.flatMap_cons, List.length_append, List.length_cons]
      omega
  simp only [encI, encL, List.length_append]
  omega
set_option maxRecDepth 100000 in
set_option maxHeartbeats 8000000 in
theorem ints_c (G : Globs) (l : List Int) (hv : ∀ n ∈ l, inR n) (h : l.length ≤ 4) : PCalls Tryd.prog G 68 [.list 1 (l.map (pint .i64))] [] (fun res H => res = pstr (encI l) ∧ H = []) := by
  have he := encI_len hv h
  have c := wints_c G l hv (by rw [← encI]; omega) (by omega)
  rw [← encI] at c
  have b1 := isByte_pb (encI l)
  have b2 := unb_pb (encI l)
  generalize encI l = e at *
  (refine PCalls_f Tryd.func68 rfl Tryd.ntmps68 Tryd.results68 (by simp) fun fin hfin => ?_; have hnm : True := trivial; simp only [ev, simprocAttr])
  repeat' (first
    | (with_reducible apply W_seq_k; intro nx hnx)
    | (with_reducible first | refine wr 5 ?_)
    | ((with_reducible first | (apply WL_op; intro nx hnx) | refine Ev_out ?_ | refine wc ?_ | (refine pf hnm fun nm hnm => ?_; try simp only [fmb] at hnm) | (refine pm hnm fun nm hnm => ?_; try simp only [fmb] at hnm)); try (simp (maxSteps := 2000000) (disch := omega) only [ev, ↓evp, PV.cells, PV.one, PV.mem?, Value.cells, simprocAttr, hnm, Tryd.tf3, Tryd.tf5, Tryd.tf9, Tryd.tf22, Tryd.tf27, Tryd.call82, b1, b2]))
    | ((with_reducible first | apply W_block | apply W_scope | apply WL_nil | apply W_label | apply W_skip | apply W_exit | apply W_ret) <;> try simp only [kks, simprocAttr])
    | (with_reducible apply hnx; clear hnx nx)
    | (with_reducible refine And.intro (by omega) ?_)
    | (with_reducible refine And.intro ?_ ?_)
    | (with_reducible refine pe (c) ?_)
    | (clear hnx nx; with_reducible apply hnx; clear hnx nx)
    | (clear hnx nx; clear hnx nx; with_reducible apply hnx; clear hnx nx))
  all_goals first
    | exact rfl
    | (refine hfin _ _ (Fin_ret1 rfl (Sub_nil _) ?_); simp only [cob, simprocAttr]; first | trivial | exact ⟨rfl, by trivial⟩ | (simp; done) | (simp; omega))
set_option maxRecDepth 100000 in
set_option maxHeartbeats 8000000 in
theorem rints2_c (G : Globs) (l : List Int) (hv : ∀ n ∈ l, inR n) (h : l.length ≤ 4) : PCalls Tryd.prog G 87 [.list 1 (l.map (pint .i64))] [] (fun res H => res = pstr (encI l) ∧ H = []) := by
  have he := encI_len hv h
  have c := rints_c G l hv (by rw [← encI]; omega) (by omega)
  rw [← encI] at c
  have b1 := isByte_pb (encI l)
  have b2 := unb_pb (encI l)
  generalize encI l = e at *
  (refine PCalls_f Tryd.func87 rfl Tryd.ntmps87 Tryd.results87 (by simp) fun fin hfin => ?_; have hnm : True := trivial; simp only [ev, simprocAttr])
  repeat' (first
    | (with_reducible apply W_seq_k; intro nx hnx)
    | (with_reducible first | refine wr 5 ?_)
    | ((with_reducible first | (apply WL_op; intro nx hnx) | refine Ev_out ?_ | refine wc ?_ | (refine pf hnm fun nm hnm => ?_; try simp only [fmb] at hnm) | (refine pm hnm fun nm hnm => ?_; try simp only [fmb] at hnm)); try (simp (maxSteps := 2000000) (disch := omega) only [ev, ↓evp, PV.cells, PV.one, PV.mem?, Value.cells, simprocAttr, hnm, Tryd.tf3, Tryd.tf5, Tryd.tf9, Tryd.tf22, Tryd.tf27, Tryd.call92, b1, b2]))
    | ((with_reducible first | apply W_block | apply W_scope | apply WL_nil | apply W_label | apply W_skip | apply W_exit | apply W_ret) <;> try simp only [kks, simprocAttr])
    | (with_reducible apply hnx; clear hnx nx)
    | (with_reducible refine And.intro (by omega) ?_)
    | (with_reducible refine And.intro ?_ ?_)
    | (with_reducible refine pe (c) ?_)
    | (clear hnx nx; with_reducible apply hnx; clear hnx nx)
    | (clear hnx nx; clear hnx nx; with_reducible apply hnx; clear hnx nx))
  all_goals first
    | exact rfl
    | (refine hfin _ _ (Fin_ret1 rfl (Sub_nil _) ?_); simp only [cob, simprocAttr]; first | trivial | exact ⟨rfl, by trivial⟩ | (simp; done) | (simp; omega))
end Go.PM

namespace Go.PM
open Go.Proofs
attribute [local irreducible] W PCalls pcall pcallI WL
theorem all_lt2 {p : List UInt8 → Prop} {a b : List UInt8} (h1 : p a) (h2 : p b) : ∀ x ∈ [a, b], p x := by
  intro x hx
  rcases List.mem_cons.1 hx with rfl | hx
  · exact h1
  · rcases List.mem_cons.1 hx with rfl | hx
    · exact h2
    · cases hx
/-- The end of a function whose result is a digest that lies in a cell. -/
theorem Fin_dig {x : Tmp} {n : Int} {f : List UInt8} {R : PV → Heap → Prop} {σ : PState} (hx : σ.frame.getD x .junk = .ptr n 0) (hl : look σ.heap n = some ⟨37, false, 0, f.map pbyte⟩) (hf : f.length = 16)
    (h3 : R (.agg (f.map pbyte)) []) : Fin Tryd.prog [.cell x 37] R .ret σ := by
  have hone := all_one_byte f
  have htk : List.take 16 (f.map pbyte) = f.map pbyte := List.take_of_length_le (by rw [List.length_map]; omega)
  refine Fin_cell (res := .agg (f.map pbyte)) Tryd.tf37 (n := n) (off := 0) (o := ⟨37, false, 0, f.map pbyte⟩) hx hl ?_ (Sub_nil _) h3
  simp [pload, hf, htk, hone]
/-- The parent of two nodes. -/
def nodeF (a b : List UInt8) : List UInt8 := ofH 2 [a, b]
set_option maxRecDepth 100000 in
set_option maxHeartbeats 8000000 in
theorem node_c (G : Globs) (hG : G 0 = .iptr (KS.map pw) 0) (a b : List UInt8) (ha : a.length = 16) (hb : b.length = 16) : PCalls Tryd.prog G 60 [.agg (a.map pbyte), .agg (b.map pbyte)] [] (fun res H => res = .agg ((nodeF a b).map pbyte) ∧ H = []) := by
  have hl1 : (a.map pbyte).length = 16 := by rw [List.length_map, ha]
  have hl2 : (b.map pbyte).length = 16 := by rw [List.length_map, hb]
  have o1 := all_one_byte a
  have o2 := all_one_byte b
  have a1 := isByte_pb a
  have a2 := unb_pb a
  have b1 := isByte_pb b
  have b2 := unb_pb b
  have c := hof_c G hG 2 [a, b] (all_lt2 (by omega) (by omega)) (by simp)
  simp only [List.map_cons, List.map_nil] at c
  have hn : ofH 2 [a, b] = nodeF a b := rfl
  have hol := ofH_len 2 [a, b]
  rw [hn] at c hol
  have hone := all_one_byte (nodeF a b)
  have t1 : List.take 16 (a.map pbyte) = a.map pbyte := List.take_of_length_le (by omega)
  have t2 : List.take 16 (b.map pbyte) = b.map pbyte := List.take_of_length_le (by omega)
  have hol2 : ((nodeF a b).map pbyte).length = 16 := by rw [List.length_map, hol]
  have t3 : List.take 16 ((nodeF a b).map pbyte) = (nodeF a b).map pbyte := List.take_of_length_le (by omega)
  generalize nodeF a b = f at *
  (refine PCalls_f Tryd.func60 rfl Tryd.ntmps60 Tryd.results60 (by simp) fun fin hfin => ?_; have hnm : True := trivial; simp only [ev, simprocAttr])
  repeat' (first
    | (with_reducible apply W_seq_k; intro nx hnx)
    | (with_reducible first | refine wr 31 ?_ | refine wd (id := 1) 31 3 (.op 0 true (.op 1 true (.op 2 true (.op 3 true (.op 4 false (.op 5 false (.op 6 false (.done)))))))) (by kernel_rfl) ?_)
    | (with_reducible refine WL_born (by simp) rfl (by simp) ?_; simp only [elemsOf, nl, bir, simprocAttr])
    | (with_reducible refine WL_bornH (by simp) (by simp) ?_ ?_ ?_; (· simp [frz, frz1, hnm]); (· simp [frz1, hnm, PV.one, Value.oneCell']); simp only [elemsOf, nl, bir, simprocAttr])
    | ((with_reducible first | (apply WL_op; intro nx hnx) | refine Ev_out ?_ | refine wc ?_ | (apply popsD_op; intro nx hnx) | (refine popsD_alt ?_ ?_; intro nx hnx) | (refine pf hnm fun nm hnm => ?_; try simp only [fmb] at hnm) | (refine pborn_im ?_; simp only [elemsOf, nl, bir, simprocAttr])); try (simp (maxSteps := 2000000) (disch := omega) only [ev, ↓evp, PV.cells, PV.one, PV.mem?, Value.cells, simprocAttr, hnm, Tryd.tf0, Tryd.tf2, Tryd.tf3, Tryd.tf5, Tryd.tf9, Tryd.tf24, Tryd.tf27, Tryd.tf37, Tryd.call14, hl1, hl2, o1, o2, a1, a2, b1, b2, t1, t2, t3, hol2, hone]))
    | ((with_reducible first | apply W_block | apply W_scope | apply WL_nil | apply W_label | apply W_skip | apply W_exit | apply W_ret | apply popsD_done | exact popsD_stop) <;> try simp only [kks, simprocAttr])
    | (with_reducible apply hnx; clear hnx nx)
    | (with_reducible refine And.intro (by omega) ?_)
    | (with_reducible refine And.intro ?_ ?_)
    | (with_reducible refine pe (c) ?_)
    | (clear hnx nx; with_reducible apply hnx; clear hnx nx)
    | (clear hnx nx; clear hnx nx; with_reducible apply hnx; clear hnx nx))
  all_goals first
    | exact rfl
    | (refine hfin _ _ ?_
       exact Fin_dig (n := nm) (by simp only [fr_getD_cons, Nat.reduceEqDiff, Nat.reduceLT, ↓reduceIte]) (by simp [look, hnm]) hol ⟨rfl, rfl⟩)
set_option maxRecDepth 100000 in
set_option maxHeartbeats 8000000 in
theorem rnode_c (G : Globs) (hG : G 1 = .iptr (KS.map pw) 0) (a b : List UInt8) (ha : a.length = 16) (hb : b.length = 16) : PCalls Tryd.prog G 86 [.agg (a.map pbyte), .agg (b.map pbyte)] [] (fun res H => res = .agg ((nodeF a b).map pbyte) ∧ H = []) := by
  have hl1 : (a.map pbyte).length = 16 := by rw [List.length_map, ha]
  have hl2 : (b.map pbyte).length = 16 := by rw [List.length_map, hb]
  have o1 := all_one_byte a
  have o2 := all_one_byte b
  have c := rof_c G hG 2 [a, b] (all_lt2 (by omega) (by omega)) (by simp)
  simp only [List.map_cons, List.map_nil] at c
  have hn : ofH 2 [a, b] = nodeF a b := rfl
  have hol := ofH_len 2 [a, b]
  rw [hn] at c hol
  have hone := all_one_byte (nodeF a b)
  have t1 : List.take 16 (a.map pbyte) = a.map pbyte := List.take_of_length_le (by omega)
  have t2 : List.take 16 (b.map pbyte) = b.map pbyte := List.take_of_length_le (by omega)
  have hol2 : ((nodeF a b).map pbyte).length = 16 := by rw [List.length_map, hol]
  have t3 : List.take 16 ((nodeF a b).map pbyte) = (nodeF a b).map pbyte := List.take_of_length_le (by omega)
  generalize nodeF a b = f at *
  (refine PCalls_f Tryd.func86 rfl Tryd.ntmps86 Tryd.results86 (by simp) fun fin hfin => ?_; have hnm : True := trivial; simp only [ev, simprocAttr])
  repeat' (first
    | (with_reducible apply W_seq_k; intro nx hnx)
    | (with_reducible first | refine wr 31 ?_ | refine wd (id := 1) 31 3 (.op 0 true (.op 2 true (.op 1 true (.op 3 false (.op 4 false (.op 5 false (.op 6 false (.done)))))))) (by kernel_rfl) ?_)
    | (with_reducible refine WL_born (by simp) rfl (by simp) ?_; simp only [elemsOf, nl, bir, simprocAttr])
    | (with_reducible refine WL_bornH (by simp) (by simp) ?_ ?_ ?_; (· simp [frz, frz1, hnm]); (· simp [frz1, hnm, PV.one, Value.oneCell']); simp only [elemsOf, nl, bir, simprocAttr])
    | ((with_reducible first | (apply WL_op; intro nx hnx) | refine Ev_out ?_ | refine wc ?_ | (apply popsD_op; intro nx hnx) | (refine popsD_alt ?_ ?_; intro nx hnx) | (refine pf hnm fun nm hnm => ?_; try simp only [fmb] at hnm) | (refine pborn_im ?_; simp only [elemsOf, nl, bir, simprocAttr])); try (simp (maxSteps := 2000000) (disch := omega) only [ev, ↓evp, PV.cells, PV.one, PV.mem?, Value.cells, simprocAttr, hnm, Tryd.tf0, Tryd.tf2, Tryd.tf3, Tryd.tf5, Tryd.tf9, Tryd.tf24, Tryd.tf37, Tryd.call53, Tryd.call74, hl1, hl2, o1, o2, t1, t2, t3, hol2, hone]))
    | ((with_reducible first | apply W_block | apply W_scope | apply WL_nil | apply W_label | apply W_skip | apply W_exit | apply W_ret | apply popsD_done | exact popsD_stop) <;> try simp only [kks, simprocAttr])
    | (with_reducible apply hnx; clear hnx nx)
    | (with_reducible refine And.intro (by omega) ?_)
    | (with_reducible refine And.intro ?_ ?_)
    | (with_reducible refine pe (c) ?_)
    | (with_reducible refine pe (text_c G a ha) ?_)
    | (with_reducible refine pe (text_c G b hb) ?_)
    | (clear hnx nx; with_reducible apply hnx; clear hnx nx)
    | (clear hnx nx; clear hnx nx; with_reducible apply hnx; clear hnx nx))
  all_goals first
    | exact rfl
    | (refine hfin _ _ ?_
       exact Fin_dig (n := nm) (by simp only [fr_getD_cons, Nat.reduceEqDiff, Nat.reduceLT, ↓reduceIte]) (by simp [look, hnm]) hol ⟨rfl, rfl⟩)
/-- The value of a chain at height 0. -/
def startF (seed : List UInt8) (i c : Int) : List UInt8 := (mac seed (99 :: 104 :: 97 :: 105 :: 110 :: encI [i, c])).take 16
theorem mac_len (k t : List UInt8) : (mac k t).length = 32 := sha_len _
theorem startF_len (seed : List UInt8) (i c : Int) : (startF seed i c).length = 16 := by
  rw [startF, List.length_take, mac_len]
  rfl
set_option maxRecDepth 100000 in
set_option maxHeartbeats 8000000 in
theorem start_c (G : Globs) (hG : G 0 = .iptr (KS.map pw) 0) (seed : List UInt8) (hs : seed.length ≤ 4000) (i c : Int) (hi : inR i) (hc : inR c) : PCalls Tryd.prog G 46 [pstr seed, pint .i64 i, pint .i64 c] [] (fun res H => res = .agg ((startF seed i c).map pbyte) ∧ H = []) := by
  have hv : ∀ n ∈ [i, c], inR n := by
    intro n hn
    rcases List.mem_cons.1 hn with rfl | hn
    · exact hi
    · rw [List.mem_singleton.1 hn]
      exact hc
  have c1 := ints_c G [i, c] hv (by simp)
  simp only [List.map_cons, List.map_nil] at c1
  have hel := encI_len hv (by simp)
  have hm := mac_len seed (99 :: 104 :: 97 :: 105 :: 110 :: encI [i, c])
  have c2 := mac_c G hG seed (99 :: 104 :: 97 :: 105 :: 110 :: encI [i, c]) (by omega) (by simp; omega)
  have hsl := startF_len seed i c
  have hst : (mac seed (99 :: 104 :: 97 :: 105 :: 110 :: encI [i, c])).take 16 = startF seed i c := rfl
  generalize startF seed i c = f at *
  generalize encI [i, c] = e at *
  generalize mac seed (99 :: 104 :: 97 :: 105 :: 110 :: e) = m at *
  have hone := all_one_byte f
  have hl : (f.map pbyte).length = 16 := by rw [List.length_map, hsl]
  have t3 : List.take 16 (f.map pbyte) = f.map pbyte := List.take_of_length_le (by omega)
  (refine PCalls_f Tryd.func46 rfl Tryd.ntmps46 Tryd.results46 (by simp) fun fin hfin => ?_; have hnm : True := trivial; simp only [ev, simprocAttr])
  have hbf : bytes f = f.map pbyte := rfl
  have hff := flat_pb f
  repeat' (first
    | (with_reducible apply W_seq_k; intro nx hnx)
    | (with_reducible first | refine wr 71 ?_)
    | (with_reducible refine WL_born (by simp) rfl (by simp) ?_; simp only [elemsOf, nl, bir, simprocAttr])
    | (with_reducible refine WL_bornH (by simp) (by simp) ?_ ?_ ?_; (· simp [frz, frz1, hnm]); (· simp [frz1, hnm, PV.one, Value.oneCell']); simp only [elemsOf, nl, bir, simprocAttr])
    | ((with_reducible first | (apply WL_op; intro nx hnx) | refine Ev_out ?_ | refine wc ?_ | (refine pf hnm fun nm hnm => ?_; try simp only [fmb] at hnm) | (refine pborn_im ?_; simp only [elemsOf, nl, bir, simprocAttr])); try (simp (maxSteps := 2000000) (disch := omega) only [ev, ↓evp, PV.cells, PV.one, PV.mem?, Value.cells, simprocAttr, hnm, Tryd.tf0, Tryd.tf2, Tryd.tf3, Tryd.tf5, Tryd.tf9, Tryd.tf22, Tryd.tf27, Tryd.tf37, Tryd.call68, Tryd.call69, hone, hl, t3, hst, hm, hbf, hff]))
    | ((with_reducible first | apply W_block | apply W_scope | apply WL_nil | apply W_label | apply W_skip | apply W_exit | apply W_ret) <;> try simp only [kks, simprocAttr])
    | (with_reducible apply hnx; clear hnx nx)
    | (with_reducible refine And.intro (by omega) ?_)
    | (with_reducible refine And.intro ?_ ?_)
    | (with_reducible refine pe (c1) ?_)
    | (with_reducible refine pe (c2) ?_)
    | (clear hnx nx; with_reducible apply hnx; clear hnx nx)
    | (clear hnx nx; clear hnx nx; with_reducible apply hnx; clear hnx nx))
  all_goals first
    | exact rfl
    | (refine hfin _ _ ?_
       exact Fin_dig (n := nm) (by simp only [fr_getD_cons, Nat.reduceEqDiff, Nat.reduceLT, ↓reduceIte]) (by simp [look, hnm]) hsl ⟨rfl, rfl⟩)
end Go.PM
