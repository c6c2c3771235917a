/- Joined texts (Vo Nd Vq Ne Nf Ng Nh Ni Nj Nk): the machine, the contracts, the laws. Conditions: none but those that each names. -/
import Derived.Test.YtmnfkfikhcjeaaaJc
import Derived.Deep.LoopGhost
import Derived.Deep.RegionLaw
import Derived.Lib.SliceRun
import Derived.Lib.SlicesDelete
import Derived.Lib.Walk
import Derived.Shelf.RegionOpenPlain
import Derived.Sort.EncStr
import Derived.Sort.WalkB12
import Derived.Test.YtmnfkfikhcjeaaaChecked
set_option linter.unusedSimpArgs false
set_option linter.unusedVariables false
namespace Go.PM
open Go.Proofs
attribute [local irreducible] W PCalls pcall pcallI WL
theorem reader_c (G : Globs) (b : List UInt8) (a : Nat) :
    PCalls Try.prog G 53 [.list 1 (b.map pbyte), pint .i64 a] [] (fun res H => ∃ N1 N2 : Int, N1 ≠ N2 ∧ res = .func 57 [.ptr N1 0, .ptr N2 0] ∧ H = [(N1, ⟨33, false, 0, [.list 1 (b.map pbyte)]⟩), (N2, ⟨3, false, 0, [pint .i64 a]⟩)]) := by
  (refine PCalls_f Try.func53 rfl Try.ntmps53 Try.results53 (by simp) fun fin hfin => ?_; have hnm : True := trivial; simp only [ev, simprocAttr])
  repeat' (first
    | (with_reducible apply W_seq_k; intro nx hnx)
    | (with_reducible first | refine wr 31 ?_)
    | ((with_reducible first | (apply WL_op; intro nx hnx) | refine Ev_out ?_ | refine wc ?_ | (refine pf hnm fun nm hnm => ?_; try simp only [fmb] at hnm) | (refine pm hnm fun nm hnm => ?_; try simp only [fmb] at hnm)); try (simp (maxSteps := 2000000) (disch := omega) only [ev, ↓evp, PV.cells, PV.one, PV.mem?, Value.cells, simprocAttr, hnm, Try.tf0, Try.tf3, Try.tf5, Try.tf33, Try.tf90]))
    | ((with_reducible first | apply W_block | apply W_scope | apply WL_nil | apply W_label | apply W_skip | apply W_exit | apply W_ret) <;> try simp only [kks, simprocAttr])
    | (with_reducible apply hnx; clear hnx nx)
    | (with_reducible refine And.intro (by omega) ?_)
    | (with_reducible refine And.intro ?_ ?_)
    | (clear hnx nx; with_reducible apply hnx; clear hnx nx)
    | (clear hnx nx; clear hnx nx; with_reducible apply hnx; clear hnx nx))
  rename_i n1 _
  obtain ⟨n2, hn2⟩ : ∃ n2, n2 = nm := ⟨_, rfl⟩
  subst hn2
  refine hfin _ _ (Fin_ret1 rfl (H := [(n1, ⟨33, false, 0, [.list 1 (b.map pbyte)]⟩), (n2, ⟨3, false, 0, [pint .i64 a]⟩)]) ⟨by simp, by simp [names, hnm]⟩ ?_)
  simp only [fr_getD_cons, fr_getD_nil, Nat.reduceEqDiff, Nat.reduceLT, ↓reduceIte]
  exact ⟨n1, n2, by simp only [ne_eq, hnm, not_false_eq_true], rfl, rfl⟩
theorem read_c (G : Globs) (b : List UInt8) (hb : (b.length : Int) ≤ 4294967296) (a : Nat) (ha : a ≤ b.length) (N1 N2 : Int) (hN : N1 ≠ N2) :
    PCalls Try.prog G 57 [.ptr N1 0, .ptr N2 0] [(N1, ⟨33, false, 0, [.list 1 (b.map pbyte)]⟩), (N2, ⟨3, false, 0, [pint .i64 a]⟩)]
      (fun res H => res = t3 ((gI (b.drop a)).1, a + (gI (b.drop a)).2.1, (gI (b.drop a)).2.2) ∧ H = [(N1, ⟨33, false, 0, [.list 1 (b.map pbyte)]⟩), (N2, ⟨3, false, 0, [pint .i64 ((a + (gI (b.drop a)).2.1 : Nat) : Int)]⟩)]) := by
  have hN1 : ¬ N1 = N2 := hN
  have hN2 : ¬ N2 = N1 := fun e => hN e.symm
  obtain ⟨c, hcd⟩ : ∃ c, c = b.drop a := ⟨_, rfl⟩
  have hcl : c.length + a = b.length := by rw [hcd, List.length_drop]; omega
  have hcm : List.drop a (List.take b.length (b.map pbyte)) = c.map pbyte := by
    rw [List.take_of_length_le (by simp), hcd, List.map_drop]
  rw [← hcd]
  (refine PCalls_f Try.func57 rfl Try.ntmps57 Try.results57 (by simp) fun fin hfin => ?_; have hnm : True := trivial; simp only [ev, simprocAttr])
  repeat' (first
    | (with_reducible apply W_seq_k; intro nx hnx)
    | (with_reducible first | refine wr 255 ?_ | refine wd (id := 3) 255 1 (.op 0 true (.op 1 true (.op 2 true (.op 3 true (.op 4 true (.op 5 true (.done))))))) (by kernel_rfl) ?_)
    | ((with_reducible first | (apply WL_op; intro nx hnx) | refine Ev_out ?_ | refine wc ?_ | (apply popsD_op; intro nx hnx) | (refine popsD_alt ?_ ?_; intro nx hnx)); try (simp (maxSteps := 2000000) (disch := omega) only [ev, ↓evp, PV.cells, PV.one, PV.mem?, Value.cells, simprocAttr, hnm, Try.tf0, Try.tf1, Try.tf2, Try.tf3, Try.tf5, Try.tf33, Try.tf34, Try.tf88, Try.call56, hN1, hN2, hcm]))
    | ((with_reducible first | apply W_block | apply W_scope | apply WL_nil | apply W_label | apply W_skip | apply W_exit | apply W_ret | apply popsD_done | exact popsD_stop) <;> try simp only [kks, simprocAttr])
    | (with_reducible apply hnx; clear hnx nx)
    | (with_reducible refine And.intro (by omega) ?_)
    | (with_reducible refine And.intro ?_ ?_)
    | (clear hnx nx; with_reducible apply hnx; clear hnx nx)
    | (clear hnx nx; clear hnx nx; with_reducible apply hnx; clear hnx nx))
  have hgl := gI_le c
  have hge := gI_vals c (by omega)
  refine pcall_k (getInt_c G c (by omega)) ?_
  rintro _ _ ⟨rfl, rfl⟩ -
  generalize gI c = y at hgl hge hfin ⊢
  obtain ⟨x, u, e⟩ := y
  simp only at hgl hge hfin ⊢
  have hau : (a : Int) + (u : Int) = ((a + u : Nat) : Int) := by omega
  refine Ev_in ?_
  repeat' (first
    | (with_reducible apply W_seq_k; intro nx hnx)
    | (with_reducible first | refine wr 255 ?_ | refine wd (id := 3) 255 1 (.op 0 true (.op 1 true (.op 2 true (.op 3 true (.op 4 true (.op 5 true (.done))))))) (by kernel_rfl) ?_)
    | ((with_reducible first | (apply WL_op; intro nx hnx) | refine Ev_out ?_ | refine wc ?_ | (apply popsD_op; intro nx hnx) | (refine popsD_alt ?_ ?_; intro nx hnx)); try (simp (maxSteps := 2000000) (disch := omega) only [ev, ↓evp, PV.cells, PV.one, PV.mem?, Value.cells, simprocAttr, hnm, Try.tf0, Try.tf1, Try.tf2, Try.tf3, Try.tf5, Try.tf33, Try.tf34, Try.tf88, Try.call56, hN1, hN2, hau]))
    | ((with_reducible first | apply W_block | apply W_scope | apply WL_nil | apply W_label | apply W_skip | apply W_exit | apply W_ret | apply popsD_done | exact popsD_stop) <;> try simp only [kks, simprocAttr])
    | (with_reducible apply hnx; clear hnx nx)
    | (with_reducible refine And.intro (by omega) ?_)
    | (with_reducible refine And.intro ?_ ?_)
    | (clear hnx nx; with_reducible apply hnx; clear hnx nx)
    | (clear hnx nx; clear hnx nx; with_reducible apply hnx; clear hnx nx))
  all_goals first
    | (exfalso
       omega)
    | (refine hfin _ _ (Fin_ret3 rfl rfl rfl (Sub_refl (by simp [names, hN1])) ?_)
       simp only [List.getD_cons_zero, List.getD_cons_succ, fr_getD_cons, fr_getD_nil, Nat.reduceEqDiff, Nat.reduceLT, ↓reduceIte]
       trivial)
set_option maxRecDepth 100000 in
set_option maxHeartbeats 8000000 in
theorem getInts_r (G : Globs) (b : List UInt8) (hb : (b.length : Int) ≤ 4294967296) :
    PCalls Try.prog G 46 [.list 1 (b.map pbyte)] [] (LR (List.map (pint .i64)) 3 1 (gLs gI 1 b)) := by
  (refine PCalls_f Try.func46 rfl Try.ntmps46 Try.results46 (by simp) fun fin hfin => ?_; have hnm : True := trivial; simp only [ev, simprocAttr])
  repeat' (first
    | (with_reducible apply W_seq_k; intro nx hnx)
    | (with_reducible first | refine wr 100671485 ?_)
    | ((with_reducible first | (apply WL_op; intro nx hnx) | refine Ev_out ?_ | refine wc ?_ | (refine pf hnm fun nm hnm => ?_; try simp only [fmb] at hnm) | (refine pm hnm fun nm hnm => ?_; try simp only [fmb] at hnm) | (refine pmaybe_k ?_; intro bn hbn)); try (simp (maxSteps := 2000000) (disch := omega) only [ev, ↓evp, PV.cells, PV.one, PV.mem?, Value.cells, simprocAttr, hnm, Try.tf0, Try.tf1, Try.tf2, Try.tf3, Try.tf4, Try.tf5, Try.tf23, Try.tf33, Try.tf34, Try.tf88, Try.tf90, Try.call52, Try.call53]))
    | ((with_reducible first | apply W_block | apply W_scope | apply WL_nil | apply W_label | apply W_skip | apply W_exit | apply W_ret) <;> try simp only [kks, simprocAttr])
    | (with_reducible apply pg <;> (intro hc; (try simp only [hcb, simprocAttr, ne_eq, forall_const] at hc); first | (exfalso; omega) | exact absurd trivial hc | skip))
    | (with_reducible apply hnx; clear hnx nx)
    | (with_reducible refine And.intro (by omega) ?_)
    | (with_reducible refine And.intro ?_ ?_)
    | (clear hnx nx; with_reducible apply hnx; clear hnx nx)
    | (clear hnx nx; clear hnx nx; with_reducible apply hnx; clear hnx nx))
  refine pcall_k (count_c G b 1 (by omega) (by omega) (by omega)) ?_
  rintro _ _ ⟨⟨n, u, rfl, hok⟩, rfl⟩ -
  have he := gC_e 1 b (by omega)
  have hgok := gC_ok (size := 1) (by omega) (b := b)
  have hgS : gLs gI 1 b = if (gC 1 b).2.2 ≠ 0 then ([], 0, (gC 1 b).2.2) else comb [] (gC 1 b).2.1 (gL gI (gC 1 b).1.toNat (b.drop (gC 1 b).2.1)) := rfl
  generalize gLs gI 1 b = X at hfin hgS
  generalize gC 1 b = x at hok he hgok hgS ⊢
  obtain ⟨k, a, e⟩ := x
  simp only at hok he hgok hgS ⊢
  by_cases hez : e = 0
  · subst hez
    obtain ⟨h1, h2⟩ := hok rfl
    obtain ⟨h3, h4, h5, h6, h7⟩ := hgok rfl
    clear hok hgok
    obtain ⟨n, rfl⟩ : ∃ k' : Nat, k = k' := ⟨k.toNat, by omega⟩
    subst h1
    subst h2
    rw [if_neg (by simp), Int.toNat_natCast] at hgS
    refine Ev_in ?_
    repeat' (first
    | (with_reducible apply W_seq_k; intro nx hnx)
    | (with_reducible first | refine wr 100671485 ?_)
    | ((with_reducible first | (apply WL_op; intro nx hnx) | refine Ev_out ?_ | refine wc ?_ | (refine pf hnm fun nm hnm => ?_; try simp only [fmb] at hnm) | (refine pm hnm fun nm hnm => ?_; try simp only [fmb] at hnm) | (refine pmaybe_k ?_; intro bn hbn)); try (simp (maxSteps := 2000000) (disch := omega) only [ev, ↓evp, PV.cells, PV.one, PV.mem?, Value.cells, simprocAttr, hnm, Try.tf0, Try.tf1, Try.tf2, Try.tf3, Try.tf4, Try.tf5, Try.tf23, Try.tf33, Try.tf34, Try.tf88, Try.tf90, Try.call52, Try.call53]))
    | ((with_reducible first | apply W_block | apply W_scope | apply WL_nil | apply W_label | apply W_skip | apply W_exit | apply W_ret) <;> try simp only [kks, simprocAttr])
    | (with_reducible apply pg <;> (intro hc; (try simp only [hcb, simprocAttr, ne_eq, forall_const] at hc); first | (exfalso; omega) | exact absurd trivial hc | skip))
    | (with_reducible apply hnx; clear hnx nx)
    | (with_reducible refine And.intro (by omega) ?_)
    | (with_reducible refine And.intro ?_ ?_)
    | (clear hnx nx; with_reducible apply hnx; clear hnx nx)
    | (clear hnx nx; clear hnx nx; with_reducible apply hnx; clear hnx nx))
    all_goals first
      | (exfalso
         omega)
      | skip
    refine pcall_k (reader_c G b a) ?_
    rintro _ _ ⟨N1, N2, hN, rfl, rfl⟩ -
    have hN1 : ¬ N1 = N2 := hN
    have hN2 : ¬ N2 = N1 := fun e => hN e.symm
    refine Ev_in ?_
    repeat' (first
    | (with_reducible apply W_seq_k; intro nx hnx)
    | (with_reducible first | refine wr 100671485 ?_)
    | ((with_reducible first | (apply WL_op; intro nx hnx) | refine Ev_out ?_ | refine wc ?_ | (refine pf hnm fun nm hnm => ?_; try simp only [fmb] at hnm) | (refine pm hnm fun nm hnm => ?_; try simp only [fmb] at hnm) | (refine pmaybe_k ?_; intro bn hbn)); try (simp (maxSteps := 2000000) (disch := omega) only [ev, ↓evp, PV.cells, PV.one, PV.mem?, Value.cells, simprocAttr, hnm, Try.tf0, Try.tf1, Try.tf2, Try.tf3, Try.tf4, Try.tf5, Try.tf23, Try.tf33, Try.tf34, Try.tf88, Try.tf90, Try.call52, Try.call53, hN1, hN2]))
    | ((with_reducible first | apply W_block | apply W_scope | apply WL_nil | apply W_label | apply W_skip | apply W_exit | apply W_ret) <;> try simp only [kks, simprocAttr])
    | (with_reducible apply pg <;> (intro hc; (try simp only [hcb, simprocAttr, ne_eq, forall_const] at hc); first | (exfalso; omega) | exact absurd trivial hc | skip))
    | (with_reducible apply hnx; clear hnx nx)
    | (with_reducible refine And.intro (by omega) ?_)
    | (with_reducible refine And.intro ?_ ?_)
    | (clear hnx nx; with_reducible apply hnx; clear hnx nx)
    | (clear hnx nx; clear hnx nx; with_reducible apply hnx; clear hnx nx))
    refine W_adopt_f 9 3 1 (by simp only [fr_getD_cons, Nat.reduceEqDiff, Nat.reduceLT, ↓reduceIte]) fun N0 hN0 => ?_
    have hN01 : N0 ≠ N1 ∧ N0 ≠ N2 := by
      simp [names] at hN0
      exact hN0
    refine W_loop_k (fun z τ => ∃ (pre : List Int) (a : Nat) (N : Int), pre.length ≤ n ∧ z = n - pre.length ∧ a ≤ b.length ∧ X = comb pre a (gL gI (n - pre.length) (b.drop a)) ∧ N ≠ N1 ∧ N ≠ N2 ∧ τ = ⟨fr 45 [(6, pint .i64 a), (8, .func 57 [.ptr N1 0, .ptr N2 0]), (9, .row N 1 pre.length), (25, pint .i64 n), (26, pint .i64 pre.length)], [(N, ⟨3, true, 1, pre.map (pint .i64)⟩), (N1, ⟨33, false, 0, [.list 1 (b.map pbyte)]⟩), (N2, ⟨3, false, 0, [pint .i64 a]⟩)]⟩) n ⟨fr 45 [(6, pint .i64 a), (8, .func 57 [.ptr N1 0, .ptr N2 0]), (9, .row N0 1 0), (25, pint .i64 n), (26, pint .i64 (0 : Nat))], [(N0, ⟨3, true, 1, []⟩), (N1, ⟨33, false, 0, [.list 1 (b.map pbyte)]⟩), (N2, ⟨3, false, 0, [pint .i64 a]⟩)]⟩ (by
      refine Wk_fr (by simp only [wkb, simprocAttr]) ?_
      exact ⟨by simp, by simp [names, hN1, hN01]⟩) ⟨[], a, N0, by simp, by simp, h5, hgS, hN01.1, hN01.2, rfl⟩ ?_
    clear hgS
    rintro z τ ⟨pre, a, N, hp, rfl, ha, hX, hNa, hNb, rfl⟩ lp hlp
    have hNa1 : ¬ N = N1 := hNa
    have hNa2 : ¬ N1 = N := fun e => hNa e.symm
    have hNb1 : ¬ N = N2 := hNb
    have hNb2 : ¬ N2 = N := fun e => hNb e.symm
    by_cases hi : pre.length < n
    · have hcl : (b.drop a).length + a = b.length := by rw [List.length_drop]; omega
      have hgl := gI_le (b.drop a)
      have hge := gI_vals (b.drop a) (by omega)
      have hc1 := comb_err gI pre a (n - (pre.length + 1)) (b.drop a)
      have hc2 := comb_ok gI pre a (n - (pre.length + 1)) (b.drop a)
      rw [show n - pre.length = n - (pre.length + 1) + 1 by omega] at hX
      rw [← hX] at hc1 hc2
      repeat' (first
    | (with_reducible apply W_seq_k; intro nx hnx)
    | (with_reducible first | refine wr 100671485 ?_)
    | ((with_reducible first | (apply WL_op; intro nx hnx) | refine Ev_out ?_ | refine wc ?_ | (refine pf hnm fun nm hnm => ?_; try simp only [fmb] at hnm) | (refine pm hnm fun nm hnm => ?_; try simp only [fmb] at hnm) | (refine pmaybe_k ?_; intro bn hbn)); try (simp (maxSteps := 2000000) (disch := omega) only [ev, ↓evp, PV.cells, PV.one, PV.mem?, Value.cells, simprocAttr, hnm, Try.tf0, Try.tf1, Try.tf2, Try.tf3, Try.tf4, Try.tf5, Try.tf23, Try.tf33, Try.tf34, Try.tf88, Try.tf90, Try.call52, Try.call53, hN1, hN2, hNa1, hNa2, hNb1, hNb2]))
    | ((with_reducible first | apply W_block | apply W_scope | apply WL_nil | apply W_label | apply W_skip | apply W_exit | apply W_ret) <;> try simp only [kks, simprocAttr])
    | (with_reducible apply pg <;> (intro hc; (try simp only [hcb, simprocAttr, ne_eq, forall_const] at hc); first | (exfalso; omega) | exact absurd trivial hc | skip))
    | (with_reducible apply hnx; clear hnx nx)
    | (with_reducible refine And.intro (by omega) ?_)
    | (with_reducible refine And.intro ?_ ?_)
    | (clear hnx nx; with_reducible apply hnx; clear hnx nx)
    | (clear hnx nx; clear hnx nx; with_reducible apply hnx; clear hnx nx))
      all_goals first
        | exact Go.PM.Try.call57
        | (exfalso
           omega)
        | skip
      refine pcall_own [(N1, ⟨33, false, 0, [.list 1 (b.map pbyte)]⟩), (N2, ⟨3, false, 0, [pint .i64 a]⟩)] [(N, ⟨3, true, 1, pre.map (pint .i64)⟩)] (read_c G b hb a ha N1 N2 hN) ?_ (by simp [names, hN1]) ?_ (by simp [names]) ?_
      · simp
      · simp [names, hNa1, hNb1]
      rintro _ _ ⟨rfl, rfl⟩ -
      generalize gI (b.drop a) = y at hgl hge hc1 hc2 ⊢
      obtain ⟨x, u, e⟩ := y
      simp only at hgl hge hc1 hc2 ⊢
      refine Ev_in ?_
      repeat' (first
    | (with_reducible apply W_seq_k; intro nx hnx)
    | (with_reducible first | refine wr 100671485 ?_)
    | ((with_reducible first | (apply WL_op; intro nx hnx) | refine Ev_out ?_ | refine wc ?_ | (refine pf hnm fun nm hnm => ?_; try simp only [fmb] at hnm) | (refine pm hnm fun nm hnm => ?_; try simp only [fmb] at hnm) | (refine pmaybe_k ?_; intro bn hbn)); try (simp (maxSteps := 2000000) (disch := omega) only [ev, ↓evp, PV.cells, PV.one, PV.mem?, Value.cells, simprocAttr, hnm, Try.tf0, Try.tf1, Try.tf2, Try.tf3, Try.tf4, Try.tf5, Try.tf23, Try.tf33, Try.tf34, Try.tf88, Try.tf90, Try.call52, Try.call53, hN1, hN2, hNa1, hNa2, hNb1, hNb2]))
    | ((with_reducible first | apply W_block | apply W_scope | apply WL_nil | apply W_label | apply W_skip | apply W_exit | apply W_ret) <;> try simp only [kks, simprocAttr])
    | (with_reducible apply pg <;> (intro hc; (try simp only [hcb, simprocAttr, ne_eq, forall_const] at hc); first | (exfalso; omega) | exact absurd trivial hc | skip))
    | (with_reducible apply hnx; clear hnx nx)
    | (with_reducible refine And.intro (by omega) ?_)
    | (with_reducible refine And.intro ?_ ?_)
    | (clear hnx nx; with_reducible apply hnx; clear hnx nx)
    | (clear hnx nx; clear hnx nx; with_reducible apply hnx; clear hnx nx))
      all_goals first
        | (have hX2 := hc1 hc
           refine hfin _ _ (Fin_ret3 rfl rfl rfl (Sub_nil _) ?_); simp only [cob, simprocAttr]
           subst hX2
           exact .inl ⟨hc, rfl, by trivial⟩)
        | (have hX2 := hc2 hc
           have hM1 : nm ≠ N1 := by simp only [ne_eq, hnm, not_false_eq_true]
           have hM2 : nm ≠ N2 := by simp only [ne_eq, hnm, not_false_eq_true]
           refine hlp _ (n - (pre.length + 1)) _ (by omega) ?_ ⟨pre ++ [x], a + u, nm, by simp; omega, by simp, by omega, ?_, hM1, hM2, rfl⟩
           · refine Wk_fr (by simp only [wkb, simprocAttr, List.length_append, List.length_cons, List.length_nil, Nat.zero_add]) ?_
             refine ⟨fun x hx => ?_, by simp [names, hM1, hM2, hN1]⟩
             simp only [List.mem_cons, List.not_mem_nil, or_false] at hx ⊢
             rcases hx with rfl | rfl | rfl
             · left
               rw [List.map_append]
               rfl
             · exact .inr (.inr (.inl rfl))
             · exact .inr (.inr (.inr rfl))
           · rw [hX2, List.drop_drop, List.length_append]
             rfl)
    · rw [show n - pre.length = 0 by omega, comb_nil] at hX
      repeat' (first
    | (with_reducible apply W_seq_k; intro nx hnx)
    | (with_reducible first | refine wr 100671485 ?_)
    | ((with_reducible first | (apply WL_op; intro nx hnx) | refine Ev_out ?_ | refine wc ?_ | (refine pf hnm fun nm hnm => ?_; try simp only [fmb] at hnm) | (refine pm hnm fun nm hnm => ?_; try simp only [fmb] at hnm) | (refine pmaybe_k ?_; intro bn hbn)); try (simp (maxSteps := 2000000) (disch := omega) only [ev, ↓evp, PV.cells, PV.one, PV.mem?, Value.cells, simprocAttr, hnm, Try.tf0, Try.tf1, Try.tf2, Try.tf3, Try.tf4, Try.tf5, Try.tf23, Try.tf33, Try.tf34, Try.tf88, Try.tf90, Try.call52, Try.call53, hN1, hN2, hNa1, hNa2, hNb1, hNb2]))
    | ((with_reducible first | apply W_block | apply W_scope | apply WL_nil | apply W_label | apply W_skip | apply W_exit | apply W_ret) <;> try simp only [kks, simprocAttr])
    | (with_reducible apply pg <;> (intro hc; (try simp only [hcb, simprocAttr, ne_eq, forall_const] at hc); first | (exfalso; omega) | exact absurd trivial hc | skip))
    | (with_reducible apply hnx; clear hnx nx)
    | (with_reducible refine And.intro (by omega) ?_)
    | (with_reducible refine And.intro ?_ ?_)
    | (clear hnx nx; with_reducible apply hnx; clear hnx nx)
    | (clear hnx nx; clear hnx nx; with_reducible apply hnx; clear hnx nx))
      all_goals first
        | (exfalso
           omega)
        | skip
      refine hfin _ _ (Fin_ret3 rfl rfl rfl (H := [(N, ⟨3, true, 1, pre.map (pint .i64)⟩)]) ⟨by simp, by simp [names]⟩ ?_)
      simp only [List.getD_cons_zero, List.getD_cons_succ, fr_getD_cons, fr_getD_nil, Nat.reduceEqDiff, Nat.reduceLT, ↓reduceIte]
      subst hX
      exact .inr ⟨rfl, N, rfl, rfl⟩
  · rw [if_pos hez] at hgS
    refine Ev_in ?_
    repeat' (first
    | (with_reducible apply W_seq_k; intro nx hnx)
    | (with_reducible first | refine wr 100671485 ?_)
    | ((with_reducible first | (apply WL_op; intro nx hnx) | refine Ev_out ?_ | refine wc ?_ | (refine pf hnm fun nm hnm => ?_; try simp only [fmb] at hnm) | (refine pm hnm fun nm hnm => ?_; try simp only [fmb] at hnm) | (refine pmaybe_k ?_; intro bn hbn)); try (simp (maxSteps := 2000000) (disch := omega) only [ev, ↓evp, PV.cells, PV.one, PV.mem?, Value.cells, simprocAttr, hnm, Try.tf0, Try.tf1, Try.tf2, Try.tf3, Try.tf4, Try.tf5, Try.tf23, Try.tf33, Try.tf34, Try.tf88, Try.tf90, Try.call52, Try.call53]))
    | ((with_reducible first | apply W_block | apply W_scope | apply WL_nil | apply W_label | apply W_skip | apply W_exit | apply W_ret) <;> try simp only [kks, simprocAttr])
    | (with_reducible apply pg <;> (intro hc; (try simp only [hcb, simprocAttr, ne_eq, forall_const] at hc); first | (exfalso; omega) | exact absurd trivial hc | skip))
    | (with_reducible apply hnx; clear hnx nx)
    | (with_reducible refine And.intro (by omega) ?_)
    | (with_reducible refine And.intro ?_ ?_)
    | (clear hnx nx; with_reducible apply hnx; clear hnx nx)
    | (clear hnx nx; clear hnx nx; with_reducible apply hnx; clear hnx nx))
    all_goals first
      | (exfalso
         omega)
      | skip
    refine hfin _ _ (Fin_ret3 rfl rfl rfl (Sub_nil _) ?_); simp only [cob, simprocAttr]
    subst hgS
    exact .inl ⟨hez, rfl, by trivial⟩
theorem getInts_c (G : Globs) (b : List UInt8) (hb : (b.length : Int) ≤ 4294967296) :
    PCalls Try.prog G 46 [.list 1 (b.map pbyte)] [] (fun res H => res = .tuple [.list 1 ((gLs gI 1 b).1.map (pint .i64)), pint .i64 (gLs gI 1 b).2.1, pint .i64 (gLs gI 1 b).2.2] ∧ H = []) :=
  LR.frz (getInts_r G b hb) (by omega) (gLs_norm _ _ _) (by simp) (elems_one _ _)
end Go.PM

namespace Go.PM
open Go.Proofs
attribute [local irreducible] W PCalls pcall pcallI WL
/-- The bytes of a packet. -/
def packB (seq ack : Int) (b : List UInt8) : List UInt8 := encL intB [seq, ack] ++ bytesB b
/-- A packet. -/
@[reducible] def pkP (p : Int × Int × List UInt8) : PV := .agg [pint .i64 p.1, pint .i64 p.2.1, pl p.2.2]
theorem unb_pb (l : List UInt8) : List.map unb (List.map pbyte l) = l := bytes_unb l
theorem isB_pb (l : List UInt8) : (List.map pbyte l).all isByte = true := bytes_isByte l
set_option maxRecDepth 100000 in
set_option maxHeartbeats 8000000 in
theorem pbytes_c (G : Globs) (seq ack : Int) (b : List UInt8) (h1 : inR seq) (h2 : inR ack) (hb : b.length ≤ 100000) : PCalls Try.prog G 33 [.agg [pint .i64 seq, pint .i64 ack, pl b]] [] (fun res H => res = pl (packB seq ack b) ∧ H = []) := by
  have n2 := intB_len9 (n := 2) ⟨by omega, by omega⟩
  have ns := intB_len9 h1
  have na := intB_len9 h2
  have nb := intB_len9 (n := b.length) ⟨by omega, by omega⟩
  have hx : (encL intB [seq, ack]).length ≤ 27 := by simp [encL]; omega
  have hy : (bytesB b).length ≤ 100009 := by simp [bytesB]; omega
  have c1 := wints_c G [seq, ack] (by simp only [List.forall_mem_cons, List.not_mem_nil, false_implies, implies_true, and_true]; exact ⟨h1, h2⟩) (by omega) (by simp)
  have c2 := wbytes_c G b (by omega)
  have c3 := concat_c G [encL intB [seq, ack], bytesB b] (by simp) (by simp [lenS]; omega)
  simp only [List.map_cons, List.map_nil, List.flatten_cons, List.flatten_nil, List.append_nil] at c1 c3
  have hX : packB seq ack b = encL intB [seq, ack] ++ bytesB b := rfl
  rw [hX]
  have u1 := unb_pb b
  have u2 := isB_pb b
  generalize encL intB [seq, ack] = x at *
  generalize bytesB b = y at *
  clear hX
  (refine PCalls_f Try.func33 rfl Try.ntmps33 Try.results33 (by simp) fun fin hfin => ?_; have hnm : True := trivial; simp only [ev, simprocAttr])
  repeat' (first
    | (with_reducible apply W_seq_k; intro nx hnx)
    | (with_reducible first | refine wr 7 ?_ | refine wd (id := 1) 7 5 (.op 0 true (.op 1 true (.op 2 true (.op 3 true (.op 6 true (.op 7 true (.op 8 true (.op 4 true (.op 5 true (.op 9 false (.op 10 false (.op 11 false (.op 12 true (.done)))))))))))))) (by kernel_rfl) ?_)
    | (with_reducible refine WL_born (by simp) rfl (by simp) ?_; simp only [elemsOf, nl, bir, simprocAttr])
    | ((with_reducible first | (apply WL_op; intro nx hnx) | refine Ev_out ?_ | refine wc ?_ | (apply popsD_op; intro nx hnx) | (refine popsD_alt ?_ ?_; intro nx hnx) | (refine pf hnm fun nm hnm => ?_; try simp only [fmb] at hnm) | (refine pborn_im ?_; simp only [elemsOf, nl, bir, simprocAttr])); try (simp (maxSteps := 2000000) (disch := omega) only [ev, ↓evp, PV.cells, PV.one, PV.mem?, Value.cells, simprocAttr, hnm, Try.tf0, Try.tf1, Try.tf2, Try.tf3, Try.tf5, Try.tf9, Try.tf23, Try.tf28, Try.tf33, Try.tf68, Try.call26, Try.call27, Try.call42, u1, u2]))
    | ((with_reducible first | apply W_block | apply W_scope | apply WL_nil | apply W_label | apply W_skip | apply W_exit | apply W_ret | apply popsD_done | exact popsD_stop) <;> try simp only [kks, simprocAttr])
    | (with_reducible apply hnx; clear hnx nx)
    | (with_reducible refine And.intro (by omega) ?_)
    | (with_reducible refine And.intro ?_ ?_)
    | (with_reducible refine pe (c1) ?_)
    | (with_reducible refine pe (c2) ?_)
    | (with_reducible refine pe (c3) ?_)
    | (clear hnx nx; with_reducible apply hnx; clear hnx nx)
    | (clear hnx nx; clear hnx nx; with_reducible apply hnx; clear hnx nx))
  all_goals first
    | (exfalso
       omega)
    | exact rfl
    | (refine hfin _ _ (Fin_ret1 rfl (Sub_nil _) ?_); simp only [cob, simprocAttr]; first | trivial | exact ⟨rfl, by trivial⟩ | (simp; done) | (simp; omega))
set_option maxRecDepth 100000 in
set_option maxHeartbeats 8000000 in
theorem rbytesP_r (G : Globs) (seq ack : Int) (b : List UInt8) (h1 : inR seq) (h2 : inR ack) (hb : b.length ≤ 100000) : PCalls Try.prog G 18 [.agg [pint .i64 seq, pint .i64 ack, pl b]] [] (RowB (packB seq ack b)) := by
  have n2 := intB_len9 (n := 2) ⟨by omega, by omega⟩
  have ns := intB_len9 h1
  have na := intB_len9 h2
  have nb := intB_len9 (n := b.length) ⟨by omega, by omega⟩
  have hx : (encL intB [seq, ack]).length ≤ 27 := by simp [encL]; omega
  have hy : (bytesB b).length ≤ 100009 := by simp [bytesB]; omega
  have c1 := rints_r G [seq, ack] (by simp only [List.forall_mem_cons, List.not_mem_nil, false_implies, implies_true, and_true]; exact ⟨h1, h2⟩) (by omega) (by simp)
  have c2 := rbytes_c G b (by omega)
  simp only [List.map_cons, List.map_nil] at c1
  have hX : packB seq ack b = encL intB [seq, ack] ++ bytesB b := rfl
  rw [hX]
  have u1 := unb_pb b
  have u2 := isB_pb b
  generalize encL intB [seq, ack] = x at *
  generalize bytesB b = y at *
  clear hX
  (refine PCalls_f Try.func18 rfl Try.ntmps18 Try.results18 (by simp) fun fin hfin => ?_; have hnm : True := trivial; simp only [ev, simprocAttr])
  repeat' (first
    | (with_reducible apply W_seq_k; intro nx hnx)
    | (with_reducible first | refine wr 15 ?_)
    | (with_reducible refine WL_born (by simp) rfl (by simp) ?_; simp only [elemsOf, nl, bir, simprocAttr])
    | ((with_reducible first | (apply WL_op; intro nx hnx) | refine Ev_out ?_ | refine wc ?_ | (refine pf hnm fun nm hnm => ?_; try simp only [fmb] at hnm) | (refine pborn_im ?_; simp only [elemsOf, nl, bir, simprocAttr])); try (simp (maxSteps := 2000000) (disch := omega) only [ev, ↓evp, PV.cells, PV.one, PV.mem?, Value.cells, simprocAttr, hnm, Try.tf0, Try.tf1, Try.tf2, Try.tf3, Try.tf5, Try.tf9, Try.tf23, Try.tf33, Try.tf43, Try.call34, Try.call35, u1, u2, flat_pb]))
    | ((with_reducible first | apply W_block | apply W_scope | apply WL_nil | apply W_label | apply W_skip | apply W_exit | apply W_ret) <;> try simp only [kks, simprocAttr])
    | (with_reducible apply hnx; clear hnx nx)
    | (with_reducible refine And.intro (by omega) ?_)
    | (with_reducible refine And.intro ?_ ?_)
    | (clear hnx nx; with_reducible apply hnx; clear hnx nx)
    | (clear hnx nx; clear hnx nx; with_reducible apply hnx; clear hnx nx))
  refine pcall_k c1 ?_
  rintro _ _ ⟨N0, rfl, rfl⟩ hN0
  simp only [names, List.map_cons, List.map_nil, List.mem_cons, List.not_mem_nil, or_false, forall_eq] at hN0
  have hN1 : ¬ nm = N0 := fun e => hN0 e.symm
  refine Ev_in ?_
  repeat' (first
    | (with_reducible apply W_seq_k; intro nx hnx)
    | (with_reducible first | refine wr 15 ?_)
    | (with_reducible refine WL_born (by simp) rfl (by simp) ?_; simp only [elemsOf, nl, bir, simprocAttr])
    | ((with_reducible first | (apply WL_op; intro nx hnx) | refine Ev_out ?_ | refine wc ?_ | (refine pf hnm fun nm hnm => ?_; try simp only [fmb] at hnm) | (refine pborn_im ?_; simp only [elemsOf, nl, bir, simprocAttr])); try (simp (maxSteps := 2000000) (disch := omega) only [ev, ↓evp, PV.cells, PV.one, PV.mem?, Value.cells, simprocAttr, hnm, Try.tf0, Try.tf1, Try.tf2, Try.tf3, Try.tf5, Try.tf9, Try.tf23, Try.tf33, Try.tf43, Try.call34, Try.call35, u1, u2, flat_pb, hN0, hN1]))
    | ((with_reducible first | apply W_block | apply W_scope | apply WL_nil | apply W_label | apply W_skip | apply W_exit | apply W_ret) <;> try simp only [kks, simprocAttr])
    | (with_reducible apply hnx; clear hnx nx)
    | (with_reducible refine And.intro (by omega) ?_)
    | (with_reducible refine And.intro ?_ ?_)
    | (with_reducible refine pe (c2) ?_)
    | (clear hnx nx; with_reducible apply hnx; clear hnx nx)
    | (clear hnx nx; clear hnx nx; with_reducible apply hnx; clear hnx nx))
  all_goals first
    | (exfalso
       omega)
    | exact rfl
    | (refine hfin _ _ (Fin_ret1 rfl (H := [(nm, ⟨5, true, 1, x.map pbyte ++ y.map pbyte⟩)]) ⟨by simp, by simp [names]⟩ ?_)
       simp only [fr_getD_cons, fr_getD_nil, Nat.reduceEqDiff, Nat.reduceLT, ↓reduceIte]
       exact ⟨nm, by rw [List.length_append], by rw [List.map_append]⟩)
theorem rbytesP_c (G : Globs) (seq ack : Int) (b : List UInt8) (h1 : inR seq) (h2 : inR ack) (hb : b.length ≤ 100000) : PCalls Try.prog G 18 [.agg [pint .i64 seq, pint .i64 ack, pl b]] [] (fun res H => res = pl (packB seq ack b) ∧ H = []) := RowB.frz (rbytesP_r G seq ack b h1 h2 hb)
/-- Can the packet have been sent? -/
def okP (p : Int × Int × List UInt8) : Bool := decide (0 ≤ p.1) && decide (0 ≤ p.2.1) && decide (p.2.2.length ≤ 65536) && (decide (0 < p.1) || decide (p.2.2.length = 0))
set_option maxRecDepth 100000 in
set_option maxHeartbeats 8000000 in
theorem valid_c (G : Globs) (p : Int × Int × List UInt8) : PCalls Try.prog G 48 [pkP p] [] (fun res H => res = pbool (okP p) ∧ H = []) := by
  obtain ⟨s, a, b⟩ := p
  obtain ⟨k, hk⟩ : ∃ k, k = okP (s, a, b) := ⟨_, rfl⟩
  rw [← hk]
  simp only [okP] at hk
  (refine PCalls_f Try.func48 rfl Try.ntmps48 Try.results48 (by simp) fun fin hfin => ?_; have hnm : True := trivial; simp only [ev, simprocAttr])
  repeat' (first
    | (with_reducible apply W_seq_k; intro nx hnx)
    | (with_reducible first | refine wr 7 ?_)
    | ((with_reducible first | (apply WL_op; intro nx hnx) | refine Ev_out ?_ | refine wc ?_ | (refine pf hnm fun nm hnm => ?_; try simp only [fmb] at hnm) | (refine pm hnm fun nm hnm => ?_; try simp only [fmb] at hnm)); try (simp (maxSteps := 2000000) (disch := omega) only [ev, ↓evp, PV.cells, PV.one, PV.mem?, Value.cells, simprocAttr, hnm, Try.tf0, Try.tf1, Try.tf2, Try.tf3, Try.tf4, Try.tf5, Try.tf33, Try.tf68]))
    | ((with_reducible first | apply W_block | apply W_scope | apply WL_nil | apply W_label | apply W_skip | apply W_exit | apply W_ret) <;> try simp only [kks, simprocAttr])
    | (with_reducible apply pg <;> (intro hc; (try simp only [hcb, simprocAttr, ne_eq, forall_const] at hc); first | (exfalso; omega) | exact absurd trivial hc | skip))
    | (with_reducible apply hnx; clear hnx nx)
    | (with_reducible refine And.intro (by omega) ?_)
    | (with_reducible refine And.intro ?_ ?_)
    | (clear hnx nx; with_reducible apply hnx; clear hnx nx)
    | (clear hnx nx; clear hnx nx; with_reducible apply hnx; clear hnx nx))
  all_goals first
    | (exfalso
       omega)
    | skip
  all_goals
    refine hfin _ _ (Fin_ret1 rfl (Sub_nil _) ?_); simp only [cob, simprocAttr]
    refine ⟨?_, by trivial⟩
    have hb : ∀ b1 b2 : Bool, b1 = b2 → pbool b1 = pbool b2 := fun _ _ h => by rw [h]
    refine hb _ _ ?_
    rw [hk, Bool.eq_iff_iff]
    simp only [Bool.and_eq_true, Bool.or_eq_true, decide_eq_true_eq, beq_iff_eq, Bool.false_eq_true, true_iff, false_iff]
    omega
/-- Reading packets. -/
def readF (c : List UInt8) : (Int × Int × List UInt8) × Bool :=
  if (gLs gI 1 c).2.2 ≠ 0 ∨ (gLs gI 1 c).1.length ≠ 2 then ((0, 0, []), false)
  else if (gS (c.drop (gLs gI 1 c).2.1)).2.2 ≠ 0 ∨ (gLs gI 1 c).2.1 + (gS (c.drop (gLs gI 1 c).2.1)).2.1 ≠ c.length then ((0, 0, []), false)
  else (((gLs gI 1 c).1.getD 0 0, (gLs gI 1 c).1.getD 1 0, (gS (c.drop (gLs gI 1 c).2.1)).1), okP ((gLs gI 1 c).1.getD 0 0, (gLs gI 1 c).1.getD 1 0, (gS (c.drop (gLs gI 1 c).2.1)).1))
end Go.PM

namespace Go.PM
open Go.Proofs
theorem gC_enc (size : Nat) (n : Nat) (r : List UInt8) (hs : 1 ≤ size) (hn : n ≤ 9223372036854775807) (h : n * size ≤ r.length) : gC size (intB n ++ r) = ((n : Int), (intB n).length, 0) := by
  have hg := gI_intB (n := n) ⟨by omega, by omega⟩ r
  unfold gC
  rw [hg]
  rw [if_neg (by simp), if_neg (by simp only; omega), if_neg]
  simp only [List.length_append]
  rw [show (intB n).length + r.length - (intB n).length = r.length by omega]
  have : (n : Int) ≤ (r.length : Int) / size := by
    rw [Int.le_ediv_iff_mul_le (by omega)]
    exact_mod_cast h
  omega
theorem gS_enc (s t : List UInt8) (h : s.length ≤ 4294967296) : gS (bytesB s ++ t) = (s, (bytesB s).length, 0) := by
  have hg := gC_enc 1 s.length (s ++ t) (by omega) (by omega) (by simp)
  unfold gS bytesB
  rw [List.append_assoc, hg, if_neg (by simp)]
  simp
theorem gC_take {size : Nat} {b : List UInt8} (hs : 1 ≤ size) (h : (gC size b).2.2 = 0) : b.take (gC size b).2.1 = intB (gC size b).1 := by
  obtain ⟨h1, -⟩ := gC_ok hs h
  have h2 := gI_ok (b := b) (n := (gC size b).1) (u := (gC size b).2.1) (by rw [h1, ← h])
  exact h2.2.1
section
variable {α : Type} {g : List UInt8 → α × Nat × Int} {enc : α → List UInt8}
theorem gL_enc : ∀ (l : List α) (t : List UInt8), (∀ x ∈ l, ∀ t, g (enc x ++ t) = (x, (enc x).length, 0)) → gL g l.length (l.flatMap enc ++ t) = (l, (l.flatMap enc).length, 0)
  | [], t, _ => rfl
  | x :: l, t, h => by
    have ih := gL_enc l t fun y hy => h y (.tail _ hy)
    have hx := h x (.head _) (l.flatMap enc ++ t)
    rw [List.flatMap_cons, List.append_assoc, List.length_cons, gL, hx]
    rw [if_neg (by simp)]
    simp only [List.drop_left, ih]
    rw [if_neg (by simp), List.length_append]
theorem gLs_enc (size : Nat) (l : List α) (t : List UInt8) (hs : 1 ≤ size) (hl : l.length ≤ 4294967296) (h : ∀ x ∈ l, ∀ t, g (enc x ++ t) = (x, (enc x).length, 0)) (hsz : ∀ x ∈ l, size ≤ (enc x).length) :
    gLs g size (encL enc l ++ t) = (l, (encL enc l).length, 0) := by
  have hb : l.length * size ≤ (l.flatMap enc).length := by
    clear hl h
    induction l with
    | nil => simp
    | cons x l ih =>
      have h1 := ih fun y hy => hsz y (.tail _ hy)
      have h2 := hsz x (.head _)
      rw [List.flatMap_cons, List.length_append, List.length_cons, Nat.succ_mul]
      omega
  have hc := gC_enc size l.length (l.flatMap enc ++ t) hs (by omega) (by rw [List.length_append]; omega)
  unfold gLs encL
  rw [List.append_assoc, hc, if_neg (by simp)]
  simp only [List.drop_left, Int.toNat_natCast]
  rw [gL_enc l t h]
  unfold comb
  rw [if_neg (by simp)]
  simp
theorem gL_ok : ∀ (k : Nat) (b : List UInt8), (∀ b, (g b).2.2 = 0 → (g b).2.1 ≤ b.length ∧ b.take (g b).2.1 = enc (g b).1) → (gL g k b).2.2 = 0 →
    (gL g k b).2.1 ≤ b.length ∧ b.take (gL g k b).2.1 = (gL g k b).1.flatMap enc ∧ (gL g k b).1.length = k
  | 0, b, _, _ => by simp [gL]
  | k + 1, b, h, he => by
    rw [gL] at he ⊢
    split at he
    · rename_i h1
      exact absurd he h1
    · rename_i h1
      rw [if_neg h1]
      split at he
      · rename_i h2
        exact absurd he h2
      · rename_i h2
        rw [if_neg h2]
        obtain ⟨a1, a2⟩ := h b (by simpa using h1)
        obtain ⟨b1, b2, b3⟩ := gL_ok k (b.drop (g b).2.1) h (by simpa using h2)
        rw [List.length_drop] at b1
        refine ⟨by simp only; omega, ?_, by simp [b3]⟩
        simp only
        rw [List.flatMap_cons, ← a2, ← b2, List.take_add]
theorem gLs_ok (size : Nat) (b : List UInt8) (hs : 1 ≤ size) (h : ∀ b, (g b).2.2 = 0 → (g b).2.1 ≤ b.length ∧ b.take (g b).2.1 = enc (g b).1) (he : (gLs g size b).2.2 = 0) :
    (gLs g size b).2.1 ≤ b.length ∧ b.take (gLs g size b).2.1 = encL enc (gLs g size b).1 ∧ ((gLs g size b).1.length : Int) * size ≤ b.length := by
  unfold gLs at he ⊢
  split at he
  · rename_i h1
    exact absurd he h1
  · rename_i h1
    rw [if_neg h1]
    have h2 : (gC size b).2.2 = 0 := by simpa using h1
    obtain ⟨h3, h4, h5, h6, h7⟩ := gC_ok hs h2
    have h8 := gC_take hs h2
    unfold comb at he ⊢
    split at he
    · rename_i h9
      exact absurd he h9
    · rename_i h9
      rw [if_neg h9]
      obtain ⟨b1, b2, b3⟩ := gL_ok (gC size b).1.toNat (b.drop (gC size b).2.1) h (by simpa using h9)
      rw [List.length_drop] at b1
      obtain ⟨k, hk⟩ : ∃ k : Nat, (gC size b).1 = k := ⟨(gC size b).1.toNat, by omega⟩
      refine ⟨by simp only; omega, ?_, ?_⟩
      · simp only [List.nil_append]
        unfold encL
        rw [b3, ← b2, List.take_add, h8, hk, Int.toNat_natCast]
      · simp only [List.nil_append]
        rw [b3]
        rw [hk] at h7 ⊢
        rw [Int.toNat_natCast]
        omega
end
theorem gI_ok2 (b : List UInt8) (h : (gI b).2.2 = 0) : (gI b).2.1 ≤ b.length ∧ b.take (gI b).2.1 = intB (gI b).1 := by
  have := gI_ok (b := b) (n := (gI b).1) (u := (gI b).2.1) (by rw [← h])
  exact ⟨this.1, this.2.1⟩
end Go.PM

namespace Go.PM
open Go.Proofs
attribute [local irreducible] W PCalls pcall pcallI WL
theorem Fin_cell2 {P : Program} {x y : Tmp} {t : TypeId} {F : TF} {n : Int} {off : Nat} {o : PObj} {R : PV → Heap → Prop} {σ : PState} {p q : PV} {H : Heap} (hF : tf P t = some F) (hx : σ.frame.getD x .junk = .ptr n off) (hl : look σ.heap n = some o)
    (hp : pload F o.cells off fun r => p = r) (hy : σ.frame.getD y .junk = q) (h2 : Sub H σ.heap) (h3 : R (.tuple [p, q]) H) : Fin P [.cell x t, .tmp y] R .ret σ :=
  Fin_ret (show PResult P σ [.cell x t, .tmp y] (.tuple [p, q]) from ⟨[p, q], ⟨by
    show PRes P σ (.cell x t) p
    simp only [PRes, hF, hx, hl]
    exact hp, hy.symm, trivial⟩, rfl⟩) h2 h3
/-- A packet comes back, and whether there is one. -/
def RDr (x : (Int × Int × List UInt8) × Bool) (res : PV) (H : Heap) : Prop :=
  H = [] ∧ ((x.2 = false ∧ ∃ (a b : Int) (c : PV), (c = pnil ∨ ∃ l, c = pl l) ∧ res = .tuple [.agg [pint .i64 a, pint .i64 b, c], pbool false]) ∨ (x.2 = true ∧ res = .tuple [pkP x.1, pbool true]))
theorem gS_len (b : List UInt8) : (gS b).1.length ≤ b.length := by
  unfold gS
  split
  · simp
  · simp only [List.length_take, List.length_drop]
    omega
theorem gLsI_le (c : List UInt8) (h : (gLs gI 1 c).2.2 = 0) : (gLs gI 1 c).2.1 ≤ c.length := (gLs_ok (g := gI) (enc := intB) 1 c (by omega) gI_ok2 h).1
set_option maxRecDepth 100000 in
set_option maxHeartbeats 8000000 in
theorem read_c2 (G : Globs) (c : List UInt8) (hc : c.length ≤ 4294900000) : PCalls Try.prog G 36 [pl c] [] (RDr (readF c)) := by
  have c1 := getInts_c G c (by omega)
  have hle := gLsI_le c
  have hnorm := gLs_norm gI 1 c
  have hX : readF c = if (gLs gI 1 c).2.2 ≠ 0 ∨ (gLs gI 1 c).1.length ≠ 2 then ((0, 0, []), false)
    else if (gS (c.drop (gLs gI 1 c).2.1)).2.2 ≠ 0 ∨ (gLs gI 1 c).2.1 + (gS (c.drop (gLs gI 1 c).2.1)).2.1 ≠ c.length then ((0, 0, []), false)
    else (((gLs gI 1 c).1.getD 0 0, (gLs gI 1 c).1.getD 1 0, (gS (c.drop (gLs gI 1 c).2.1)).1), okP ((gLs gI 1 c).1.getD 0 0, (gLs gI 1 c).1.getD 1 0, (gS (c.drop (gLs gI 1 c).2.1)).1)) := rfl
  rw [hX]
  clear hX
  generalize gLs gI 1 c = X at *
  obtain ⟨l, u, e⟩ := X
  simp only at *
  by_cases h1 : e ≠ 0 ∨ l.length ≠ 2
  · rw [if_pos h1]
    (refine PCalls_f Try.func36 rfl Try.ntmps36 Try.results36 (by simp) fun fin hfin => ?_; have hnm : True := trivial; simp only [ev, simprocAttr])
    repeat' (first
    | (with_reducible apply W_seq_k; intro nx hnx)
    | (with_reducible first | refine wr 1021 ?_ | refine wd (id := 7) 1021 1 (.op 0 true (.op 1 true (.op 2 true (.op 3 true (.op 4 true (.op 5 true (.op 6 true (.alt 7 true (.op 8 true (.op 9 true (.op 10 false (.done)))) (.alt 9 true (.op 7 true (.op 8 true (.op 10 false (.done)))) .stop))))))))) (by kernel_rfl) ?_ | refine wd (id := 8) 1021 2 (.op 0 true (.op 1 true (.op 2 true (.op 3 false (.op 4 true (.done)))))) (by kernel_rfl) ?_)
    | ((with_reducible first | (apply WL_op; intro nx hnx) | refine Ev_out ?_ | refine wc ?_ | (apply popsD_op; intro nx hnx) | (refine popsD_alt ?_ ?_; intro nx hnx) | (refine pf hnm fun nm hnm => ?_; try simp only [fmb] at hnm) | (refine pm hnm fun nm hnm => ?_; try simp only [fmb] at hnm)); try (simp (maxSteps := 2000000) (disch := omega) only [ev, ↓evp, PV.cells, PV.one, PV.mem?, Value.cells, simprocAttr, hnm, Try.tf0, Try.tf1, Try.tf2, Try.tf3, Try.tf4, Try.tf5, Try.tf9, Try.tf23, Try.tf33, Try.tf34, Try.tf68, Try.tf84, Try.tf86, Try.call46, Try.call47, Try.call48]))
    | ((with_reducible first | apply W_block | apply W_scope | apply WL_nil | apply W_label | apply W_skip | apply W_exit | apply W_ret | apply popsD_done | exact popsD_stop) <;> try simp only [kks, simprocAttr])
    | (with_reducible apply pg <;> (intro hc; (try simp only [hcb, simprocAttr, ne_eq, forall_const] at hc); first | (exfalso; omega) | exact absurd trivial hc | skip))
    | (with_reducible apply hnx; clear hnx nx)
    | (with_reducible refine And.intro (by omega) ?_)
    | (with_reducible refine And.intro ?_ ?_)
    | (with_reducible refine pe (c1) ?_)
    | (clear hnx nx; with_reducible apply hnx; clear hnx nx)
    | (clear hnx nx; clear hnx nx; with_reducible apply hnx; clear hnx nx))
    all_goals first
      | (exfalso
         omega)
      | skip
    all_goals
      refine hfin _ _ (Fin_cell2 (p := .agg [pint .i64 0, pint .i64 0, pnil]) (q := pbool false) Try.tf68 (n := nm) (off := 0) (o := ⟨68, false, 0, [pint .i64 0, pint .i64 0, pnil]⟩) (by simp only [fr_getD_cons, Nat.reduceEqDiff, Nat.reduceLT, ↓reduceIte]) (by simp only [look, ↓reduceIte]) ?_ (by simp only [fr_getD_cons, Nat.reduceEqDiff, Nat.reduceLT, ↓reduceIte]) (Sub_nil _) ⟨rfl, .inl ⟨rfl, 0, 0, pnil, .inl rfl, rfl⟩⟩)
      simp [pload]
  · have he : e = 0 := by omega
    subst he
    have hl : l.length = 2 := by omega
    obtain ⟨s, a, rfl⟩ : ∃ s a, l = [s, a] := by
      match l, hl with
      | [s, a], _ => exact ⟨s, a, rfl⟩
    rw [if_neg h1]
    have hu := hle rfl
    obtain ⟨d, hd⟩ : ∃ d, d = c.drop u := ⟨_, rfl⟩
    have hdl : d.length + u = c.length := by rw [hd, List.length_drop]; omega
    have c2 := getBytes_c G d (by omega)
    have hgl := gS_le d (by omega)
    have hgn := gS_len d
    have hd2 : List.drop u (c.map pbyte) = d.map pbyte := by rw [hd, List.map_drop]
    have htb : List.take c.length (c.map pbyte) = c.map pbyte := List.take_of_length_le (by simp)
    have c3 := valid_c G (s, a, (gS d).1)
    rw [← hd]
    generalize gS d = Y at *
    obtain ⟨b, m, f⟩ := Y
    simp only [List.map_cons, List.map_nil, List.getD_cons_zero, List.getD_cons_succ] at *
    generalize okP (s, a, b) = k at *
    clear h1 hle hnorm hl
    have hbs : bytes b = b.map pbyte := rfl
    (refine PCalls_f Try.func36 rfl Try.ntmps36 Try.results36 (by simp) fun fin hfin => ?_; have hnm : True := trivial; simp only [ev, simprocAttr])
    with_reducible apply W_seq_k
    intro nx hnx
    repeat' (first
    | (with_reducible first | refine wr 1021 ?_ | refine wd (id := 7) 1021 1 (.op 0 true (.op 1 true (.op 2 true (.op 3 true (.op 4 true (.op 5 true (.op 6 true (.alt 7 true (.op 8 true (.op 9 true (.op 10 false (.done)))) (.alt 9 true (.op 7 true (.op 8 true (.op 10 false (.done)))) .stop))))))))) (by kernel_rfl) ?_ | refine wd (id := 8) 1021 2 (.op 0 true (.op 1 true (.op 2 true (.op 3 false (.op 4 true (.done)))))) (by kernel_rfl) ?_)
    | ((with_reducible first | (apply WL_op; intro nx hnx) | refine Ev_out ?_ | refine wc ?_ | (apply popsD_op; intro nx hnx) | (refine popsD_alt ?_ ?_; intro nx hnx) | (refine pf hnm fun nm hnm => ?_; try simp only [fmb] at hnm) | (refine pm hnm fun nm hnm => ?_; try simp only [fmb] at hnm)); try (simp (maxSteps := 2000000) (disch := omega) only [ev, ↓evp, PV.cells, PV.one, PV.mem?, Value.cells, simprocAttr, hnm, Try.tf0, Try.tf1, Try.tf2, Try.tf3, Try.tf4, Try.tf5, Try.tf9, Try.tf23, Try.tf33, Try.tf34, Try.tf68, Try.tf84, Try.tf86, Try.call46, Try.call47, Try.call48]))
    | ((with_reducible first | apply W_block | apply W_scope | apply WL_nil | apply W_label | apply W_skip | apply W_exit | apply W_ret | apply popsD_done | exact popsD_stop) <;> try simp only [kks, simprocAttr])
    | (with_reducible apply pg <;> (intro hc; (try simp only [hcb, simprocAttr, ne_eq, forall_const] at hc); first | (exfalso; omega) | exact absurd trivial hc | skip))
    | (with_reducible apply hnx; clear hnx nx)
    | (with_reducible refine And.intro (by omega) ?_)
    | (with_reducible refine And.intro ?_ ?_)
    | (clear hnx nx; with_reducible apply hnx; clear hnx nx)
    | (clear hnx nx; clear hnx nx; with_reducible apply hnx; clear hnx nx))
    obtain ⟨N, hN⟩ : ∃ N, N = nm := ⟨_, rfl⟩
    subst hN
    repeat' (first
    | (with_reducible apply W_seq_k; intro nx hnx)
    | (with_reducible first | refine wr 1021 ?_ | refine wd (id := 7) 1021 1 (.op 0 true (.op 1 true (.op 2 true (.op 3 true (.op 4 true (.op 5 true (.op 6 true (.alt 7 true (.op 8 true (.op 9 true (.op 10 false (.done)))) (.alt 9 true (.op 7 true (.op 8 true (.op 10 false (.done)))) .stop))))))))) (by kernel_rfl) ?_ | refine wd (id := 8) 1021 2 (.op 0 true (.op 1 true (.op 2 true (.op 3 false (.op 4 true (.done)))))) (by kernel_rfl) ?_)
    | ((with_reducible first | (apply WL_op; intro nx hnx) | refine Ev_out ?_ | refine wc ?_ | (apply popsD_op; intro nx hnx) | (refine popsD_alt ?_ ?_; intro nx hnx) | (refine pf hnm fun nm hnm => ?_; try simp only [fmb] at hnm) | (refine pm hnm fun nm hnm => ?_; try simp only [fmb] at hnm)); try (simp (maxSteps := 2000000) (disch := omega) only [ev, ↓evp, PV.cells, PV.one, PV.mem?, Value.cells, simprocAttr, hnm, Try.tf0, Try.tf1, Try.tf2, Try.tf3, Try.tf4, Try.tf5, Try.tf9, Try.tf23, Try.tf33, Try.tf34, Try.tf68, Try.tf84, Try.tf86, Try.call46, Try.call47, Try.call48, htb, hd2, hbs]))
    | ((with_reducible first | apply W_block | apply W_scope | apply WL_nil | apply W_label | apply W_skip | apply W_exit | apply W_ret | apply popsD_done | exact popsD_stop) <;> try simp only [kks, simprocAttr])
    | (with_reducible apply pg <;> (intro hc; (try simp only [hcb, simprocAttr, ne_eq, forall_const] at hc); first | (exfalso; omega) | exact absurd trivial hc | skip))
    | (with_reducible apply hnx; clear hnx nx)
    | (with_reducible refine And.intro (by omega) ?_)
    | (with_reducible refine And.intro ?_ ?_)
    | (with_reducible refine pe (c1) ?_)
    | (with_reducible refine pe (c2) ?_)
    | (with_reducible refine pe (c3) ?_)
    | (clear hnx nx; with_reducible apply hnx; clear hnx nx)
    | (clear hnx nx; clear hnx nx; with_reducible apply hnx; clear hnx nx))
    all_goals first
      | exact rfl
      | omega
      | (exfalso
         omega)
      | exact absurd trivial hc
      | (rw [if_pos (show f ≠ 0 ∨ u + m ≠ c.length by omega)] at hfin
         refine hfin _ _ (Fin_cell2 (p := .agg [pint .i64 0, pint .i64 0, pnil]) (q := pbool false) Try.tf68 (n := N) (off := 0) (o := ⟨68, false, 0, [pint .i64 0, pint .i64 0, pnil]⟩) (by simp only [fr_getD_cons, Nat.reduceEqDiff, Nat.reduceLT, ↓reduceIte]) (by simp only [look, ↓reduceIte]) ?_ (by simp only [fr_getD_cons, Nat.reduceEqDiff, Nat.reduceLT, ↓reduceIte]) (Sub_nil _) ⟨rfl, .inl ⟨rfl, 0, 0, pnil, .inl rfl, rfl⟩⟩)
         simp [pload])
      | (rw [if_neg (show ¬ (f ≠ 0 ∨ u + m ≠ c.length) by omega)] at hfin
         refine hfin _ _ (Fin_cell2 (p := .agg [pint .i64 s, pint .i64 a, pl b]) (q := pbool k) Try.tf68 (n := N) (off := 0) (o := ⟨68, false, 0, [pint .i64 s, pint .i64 a, pl b]⟩) (by simp only [fr_getD_cons, Nat.reduceEqDiff, Nat.reduceLT, ↓reduceIte]) (by simp only [look, hnm, ↓reduceIte]) ?_ (by simp only [fr_getD_cons, Nat.reduceEqDiff, Nat.reduceLT, ↓reduceIte]) (Sub_nil _) ⟨rfl, ?_⟩)
         · simp [pload]
         · cases k
           · exact .inl ⟨rfl, s, a, pl b, .inr ⟨b, rfl⟩, rfl⟩
           · exact .inr ⟨rfl, rfl⟩)
end Go.PM

namespace Go.PM
open Go.Proofs
attribute [local irreducible] W PCalls pcall pcallI WL
/-- A number from 0 on, below another one. -/
def arN (n : Int) (most : Nat) : Nat := (if n < 0 then (-1 - n).toNat else n.toNat) % most
theorem arN_lt (n : Int) (most : Nat) (h : 0 < most) : arN n most < most := Nat.mod_lt _ h
theorem around_c (G : Globs) (n : Int) (most : Nat) (h : 0 < most) (hm : most ≤ 4294967296) (hn : inR n) : PCalls Try.prog G 10 [pint .i64 n, pint .i64 most] [] (fun res H => res = pint .i64 (arN n most : Nat) ∧ H = []) := by
  obtain ⟨h1, h2⟩ := hn
  have e : ∀ (x : Int), 0 ≤ x → x.tmod most = ((x.toNat % most : Nat) : Int) := fun x hx => by
    rw [Int.tmod_eq_emod_of_nonneg hx, Int.natCast_emod, Int.toNat_of_nonneg hx]
  unfold arN
  (refine PCalls_f Try.func10 rfl Try.ntmps10 Try.results10 (by simp) fun fin hfin => ?_; have hnm : True := trivial; simp only [ev, simprocAttr])
  repeat' (first
    | (with_reducible apply W_seq_k; intro nx hnx)
    | (with_reducible first | refine wr 19 ?_)
    | ((with_reducible first | (apply WL_op; intro nx hnx) | refine Ev_out ?_ | refine wc ?_); try (simp (maxSteps := 2000000) (disch := omega) only [ev, ↓evp, PV.cells, PV.one, PV.mem?, Value.cells, simprocAttr, hnm, Try.tf3, Try.tf4]))
    | ((with_reducible first | apply W_block | apply W_scope | apply WL_nil | apply W_label | apply W_skip | apply W_exit | apply W_ret) <;> try simp only [kks, simprocAttr])
    | (with_reducible apply pg <;> (intro hc; (try simp only [hcb, simprocAttr, ne_eq, forall_const] at hc); first | (exfalso; omega) | exact absurd trivial hc | skip))
    | (with_reducible apply hnx; clear hnx nx)
    | (with_reducible refine And.intro (by omega) ?_)
    | (with_reducible refine And.intro ?_ ?_)
    | (clear hnx nx; with_reducible apply hnx; clear hnx nx)
    | (clear hnx nx; clear hnx nx; with_reducible apply hnx; clear hnx nx))
  all_goals first
    | (exfalso
       omega)
    | skip
  · rw [if_pos hc] at hfin
    refine hfin _ _ (Fin_ret1 rfl (Sub_nil _) ?_); simp only [cob, simprocAttr]
    rw [e _ (by omega), show (0 - (n + 1)).toNat = (-1 - n).toNat by omega]
    exact ⟨rfl, by trivial⟩
  · rw [if_neg hc] at hfin
    refine hfin _ _ (Fin_ret1 rfl (Sub_nil _) ?_); simp only [cob, simprocAttr]
    rw [e _ (by omega)]
    exact ⟨rfl, by trivial⟩
end Go.PM

namespace Go.Proofs
open Go.Shelf Go.RowKit Go.Lib Go.Sort
set_option maxHeartbeats 4000000 in
set_option maxRecDepth 1000000 in
/-- The library's function over cells of one value each. -/
theorem delete_raw (blk off cap i j : Nat) (d : Array Value) (w : World) (h1 : ∀ u ∈ d.toList, u.oneCell' = true) (hH : Holds id w blk off d) (hcap : d.size ≤ cap) (hm : cap ≤ 9223372036854775807) (hlt : i < j) (hj : j ≤ d.size) :
    Calls Try.prog 37 #[.slice (some ⟨blk, off, none⟩) d.size cap, .int .i64 i, .int .i64 j] w fun e w' => e = .returned (.slice (some ⟨blk, off, none⟩) (d.size - (j - i)) cap) ∧
      w' = (w.drew.setCells blk (off + i * 1) (d.toList.drop j)).setCells blk (off + (i + (d.size - j))) (List.replicate (d.size - (i + (d.size - j))) (.slice none 0 0)) := by
  have mixed : Try.prog.follows Departure.mixedOrders = true := by kernel_rfl
  have t28 : Try.prog.underlying 28 = some (.slice 33) := by kernel_rfl
  obtain ⟨i0, hi0, hz0, hz1, hz2⟩ := info_parts (show (Try.prog.info? 33).map (fun i => (i.zero, i.size, i.bytes)) = some (some (.slice none 0 0), 1, 24) by kernel_rfl)
  have v33 : ∀ w, (zeroValue 33).run Try.prog w = .ok (.slice none 0 0) w := fun w => PM.zero_run PM.Try.tf33 rfl w
  obtain ⟨news, hnews⟩ : ∃ news, news = d.toList.drop j := ⟨_, rfl⟩
  have hlen : news.length = d.size - j := by rw [hnews]; simp
  have hget : ∀ t, t < d.size - j → news[t]? = some (d[j + t]!) := by
    intro t ht
    rw [hnews, List.getElem?_drop, Array.getElem?_toList, getElem!_pos d (j + t) (by omega), Array.getElem?_eq_getElem (by omega)]
  obtain ⟨A, hA, hsrc⟩ : ∃ A : Addr, (if cap = j then some (⟨blk, off, none⟩ : Addr) else some ⟨blk, off + j, none⟩) = some A ∧ Hid (∀ t u, news[t]? = some u → w.drew.cell? (A.add t) = some u) := by
    by_cases h : cap = j
    · refine ⟨⟨blk, off, none⟩, by simp [h], fun t u hu => ?_⟩
      have h0 : news.length = 0 := by rw [hlen]; omega
      rw [List.length_eq_zero_iff.1 h0] at hu
      simp at hu
    · refine ⟨⟨blk, off + j, none⟩, by simp [h], fun t u hu => ?_⟩
      have ht : t < d.size - j := by
        have := (List.getElem?_eq_some_iff.1 hu).1
        rwa [hlen] at this
      rw [hget t ht] at hu
      rw [Addr.add_lit, show off + j + t = off + (j + t) by omega]
      exact (hH (j + t) (by omega)).1.trans hu
  have s1 : Hid (news.length = (d.size - j) * 1) := by rw [Nat.mul_one]; exact hlen
  have s2 : Hid (∀ u ∈ news, u.oneCell' = true) := by
    intro u hu
    rw [hnews] at hu
    exact h1 u (List.mem_of_mem_drop hu)
  have s3 : Hid (∀ t, t < news.length → (w.drew.cell? ⟨blk, off + i * 1 + t, none⟩).isSome = true ∧ w.drew.frozen? ⟨blk, off + i * 1 + t, none⟩ = false) := by
    intro t ht
    rw [hlen] at ht
    rw [Nat.mul_one, Nat.add_assoc]
    exact ⟨by show (w.cell? _).isSome = true; rw [(hH (i + t) (by omega)).1]; rfl, (hH (i + t) (by omega)).2⟩
  obtain ⟨W1, hW1⟩ : ∃ W1, W1 = w.drew.setCells blk (off + i * 1) news := ⟨_, rfl⟩
  have hW1' : W1 = putRow id (Sort.ahead w 1) blk off (lay d i (d.toList.drop j)) := by
    have e := putRow_setCells id (Sort.ahead w 1) blk off (d.toList.drop j) d i (by simp; omega)
    rw [putRow_self id (Sort.ahead w 1) blk off d (holds_ahead id w 1 blk off d hH), List.map_id] at e
    rw [hW1, hnews, Nat.mul_one, ← e]
    rfl
  have hH1 : Holds id W1 blk off (lay d i (d.toList.drop j)) := by rw [hW1']; exact holds_putRow id _ blk off d _ (holds_ahead id w 1 blk off d hH) (lay_size _ _ _)
  have hcl : ∀ ty, (Builtin.clear_ #[28] ty #[.slice (some ⟨blk, off + (i + (d.size - j)), none⟩) (d.size - (i + (d.size - j))) (cap - (i + (d.size - j)))]).run Try.prog W1 = .ok (.tuple #[]) (W1.setCells blk (off + (i + (d.size - j))) (List.replicate (d.size - (i + (d.size - j))) (.slice none 0 0))) :=
    fun ty => Lib.run_clear_slice W1 _ _ ty _ t28 v33 rfl rfl blk (off + (i + (d.size - j))) _ _ (by omega) (fun t ht => by rw [show off + (i + (d.size - j)) + t = off + (i + (d.size - j) + t) by omega, (hH1 _ (by rw [lay_size]; omega)).1]; rfl) (fun t ht => by rw [show off + (i + (d.size - j)) + t = off + (i + (d.size - j) + t) by omega]; exact (hH1 _ (by rw [lay_size]; omega)).2)
  have hW : Hid (W1 = w.drew.setCells blk (off + i * 1) news) := hW1
  have hic : i ≤ cap := by omega
  have hjc : j ≤ cap := by omega
  rw [← hnews, ← hW1]
  clear hW1 hW1' hH1 hH hget hnews hlen
  go_enter Try.func37, Try.ntmps37
  go_wp2_with fail
  go_region_law_o (refine step_append_room rfl (.tmp 22) (.tmp 25) 28 rfl 33 i0 1 t28 hi0 hz1 blk off i cap (by simp [Act.eval, Act.put]) A (d.size - j) (cap - j) news (by simp [Act.eval, Act.put]) s1.out hsrc.out s2.out (by omega) s3.out ?_; rw [← hW.out])
  go_wp2
  go_ret
  exact ⟨by rw [show d.size - (j - i) = i + (d.size - j) by omega]; rfl, rfl⟩
end Go.Proofs
namespace Go.PM
open Go.Proofs
/-- Less is told of a row. -/
theorem Sim.cut {G : Globs} {E : Amb} {A : Nat → Prop} {fr : List PV} {a : Act} {w : World} {N : Int} {t : TypeId} {es : Nat} {cells more : List PV} (hs : Sim G E A ⟨fr, [(N, ⟨t, true, es, cells ++ more⟩)]⟩ a w) : Sim G E A ⟨fr, [(N, ⟨t, true, es, cells⟩)]⟩ a w := by
  refine ⟨hs.ext, hs.lt, hs.a0, hs.a1, hs.globs, hs.nodup, fun m o h => ?_, fun m o h => ?_, fun m o h => ?_, hs.defers, hs.size, hs.frame⟩
  · simp only [List.mem_singleton] at h
    cases h
    rcases hs.objs N _ List.mem_cons_self with ⟨g1, g2, g3⟩ | ⟨b, cur, fz, f, rfl, q1, q2, q3, q4⟩ | ⟨b, m, clock, rfl, q1, q2, _⟩ | ⟨b, x, ps, rfl, q1, q2, q3, _⟩
    · exact .inl ⟨g1, g2, (List.append_eq_nil_iff.1 g3).1⟩
    · exact .inr (.inl ⟨b, cur, fz, f, rfl, q1, q2, ⟨q3.1, fun h => Bool.noConfusion h⟩, fun j u hu => q4 j u (by
        have hj : j < cells.length := (List.getElem?_eq_some_iff.1 hu).1
        rw [List.getElem?_append_left hj]
        exact hu)⟩)
    · cases q2
    · cases q3
  · simp only [List.mem_singleton] at h
    cases h
    exact hs.own N _ List.mem_cons_self
  · simp only [List.mem_singleton] at h
    cases h
    exact hs.neg N _ List.mem_cons_self
set_option maxRecDepth 100000 in
theorem delete_c (G : Globs) (N : Int) (cells : List PV) (len n : Nat) (hl : cells.length = len) (h0 : 0 < n) (hn : n ≤ len) : PCalls Try.prog G 37 [.row N 1 len, pint .i64 0, pint .i64 n] [(N, ⟨33, true, 1, cells⟩)]
    (fun res H => res = .row N 1 (len - n) ∧ H = [(N, ⟨33, true, 1, cells.drop n⟩)]) := by
  intro w A F vals hA hG hnd hobj hown hsz hvals
  obtain ⟨v0, e0, r0⟩ := hvals 0 _ rfl
  obtain ⟨v1, e1, r1⟩ := hvals 1 _ rfl
  obtain ⟨v2, e2, r2⟩ := hvals 2 _ rfl
  have r1 := r1.val_eq
  have r2 := r2.val_eq
  subst r1
  subst r2
  rcases r0.row_inv with ⟨_, h, _⟩ | ⟨b, c, Nn, t, rfl, rfl, hsh, hN, hlc, hmx⟩
  · omega
  have ev : vals = #[.slice (some (at_ b 0)) len c, .int .i64 0, .int .i64 n] := by
    apply Array.ext
    · simpa using hsz
    · intro i h1 h2
      have h3 : i < 3 := by simpa using h2
      match i, h3 with
      | 0, _ => rw [Array.getElem?_eq_getElem h1] at e0; simpa using Option.some.inj e0
      | 1, _ => rw [Array.getElem?_eq_getElem h1] at e1; simpa using Option.some.inj e1
      | 2, _ => rw [Array.getElem?_eq_getElem h1] at e2; simpa using Option.some.inj e2
  subst ev
  have hs : Sim G ⟨w, A, [(b : Int)], F⟩ A ⟨[], [((b : Int), ⟨33, true, 1, cells⟩)]⟩ ⟨#[], []⟩ w :=
    ⟨Ext.refl _ _, hA, fun _ h => h, fun _ h => .inl h, hG, hnd, hobj, fun m o h x hx => ⟨(hown m o h x hx).1, (hown m o h x hx).2, .inr (by
      simp only [List.mem_singleton] at h
      cases h
      show (x : Int) ∈ [(b : Int)]
      rw [hx]
      exact List.mem_singleton.2 rfl)⟩, fun m o h hm => .inr (by
      simp only [List.mem_singleton] at h
      cases h
      simp), rfl, rfl, by simp⟩
  obtain ⟨cur, fz, f, hh, hu, hg, hc⟩ := (hobj _ _ List.mem_cons_self).block rfl hsh
  have hfz := hg.1 rfl
  subst hfz
  have hcur : cur.size = c := by
    simp [World.shape?, hh] at hsh
    omega
  obtain ⟨d, hd⟩ : ∃ d : Array Value, d = ((List.range len).map f).toArray := ⟨_, rfl⟩
  have hds : d.size = len := by rw [hd]; simp
  have hdg : ∀ j, j < len → d[j]! = f j := fun j hj => by
    rw [getElem!_pos d j (by omega)]
    simp [hd]
  have hce : ∀ j, j < len → ∃ u, cells[j]? = some u := fun j hj => ⟨_, List.getElem?_eq_getElem (by omega)⟩
  have hone : ∀ u ∈ d.toList, u.oneCell' = true := by
    intro u hu
    rw [hd] at hu
    simp only [List.mem_map, List.mem_range] at hu
    obtain ⟨j, hj, rfl⟩ := hu
    obtain ⟨p, hp⟩ := hce j hj
    exact (one_cells (hc j p hp).2.1 (hc j p hp).2.2).2
  have hH : Sort.Holds id w b 0 d := by
    intro j hj
    rw [hds] at hj
    obtain ⟨p, hp⟩ := hce j hj
    refine ⟨?_, ?_⟩
    · rw [hdg j hj, Nat.zero_add]
      show w.cell? (at_ b j) = some (f j)
      rw [cell_of_block hh]
      exact (hc j p hp).1
    · simp [World.frozen?, hh]
  have hraw := delete_raw b 0 c 0 n d w hone hH (by omega) (by simpa [maxLen] using hmx) h0 (by omega)
  rw [hds] at hraw
  refine Calls.mono hraw ?_
  rintro e w' ⟨rfl, rfl⟩
  have hb1 : (d.toList.drop n).length = len - n := by simp [hds]
  have hs1 := hs.drawn
  have hst := hs1.store (sh := (t, Nn)) (vs := d.toList.drop n) (xs := cells.drop n) (off := 0) (b := b) (n := (b : Int)) (o := ⟨33, true, 1, cells⟩) (by simp [look]) rfl hsh (by rw [hb1, List.length_drop, hl]) (by omega) (.inl (by simp)) (fun j u hu => by
    rw [List.getElem?_drop] at hu
    have hj : n + j < len := by
      have := (List.getElem?_eq_some_iff.1 hu).1
      omega
    refine ⟨(hc _ u hu).2.1, f (n + j), ?_, (hc _ u hu).2.2.ext (Ext.drew (fun _ => False) w) (fun _ h => h) (fun _ _ h => h)⟩
    rw [List.getElem?_drop, Array.getElem?_toList, hd]
    simp [hj])
  have hsh2 := (Ext.setCells (M := fun x => x = b) b rfl (d.toList.drop n) 0 w.drew).shape _ _ hsh
  have hu1 : upd [((b : Int), (⟨33, true, 1, cells⟩ : PObj))] b ⟨33, true, 1, cells.take 0 ++ cells.drop n ++ cells.drop (0 + (cells.drop n).length)⟩ = [((b : Int), ⟨33, true, 1, cells.drop n ++ cells.drop (len - n)⟩)] := by
    simp [upd, hl]
  simp only at hst
  rw [hu1] at hst
  have hst2 := hst.store (sh := (t, Nn)) (vs := List.replicate n (.slice none 0 0)) (xs := List.replicate n pnil) (off := len - n) (b := b) (n := (b : Int)) (o := ⟨33, true, 1, cells.drop n ++ cells.drop (len - n)⟩) (by simp [look]) rfl hsh2 (by simp) (by simp [hl]) (.inl (by simp [hl]; omega)) (fun j u hu => by
    have hj : j < n := by
      have := (List.getElem?_eq_some_iff.1 hu).1
      simpa using this
    rw [List.getElem?_replicate, if_pos hj] at hu
    cases hu
    exact ⟨rfl, _, by rw [List.getElem?_replicate, if_pos hj], .val _⟩)
  have hu2 : upd [((b : Int), (⟨33, true, 1, cells.drop n ++ cells.drop (len - n)⟩ : PObj))] b ⟨33, true, 1, (cells.drop n ++ cells.drop (len - n)).take (len - n) ++ List.replicate n pnil ++ (cells.drop n ++ cells.drop (len - n)).drop (len - n + (List.replicate n pnil).length)⟩ = [((b : Int), ⟨33, true, 1, cells.drop n ++ List.replicate n pnil⟩)] := by
    simp only [upd, if_true]
    have a1 : (cells.drop n ++ cells.drop (len - n)).take (len - n) = cells.drop n := List.take_left' (by simp [hl])
    have a2 : (cells.drop n ++ cells.drop (len - n)).drop (len - n + (List.replicate n pnil).length) = [] := List.drop_of_length_le (by simp [hl]; omega)
    rw [a1, a2, List.append_nil]
  simp only at hst2
  rw [hu2] at hst2
  have hfin := hst2.cut
  refine ⟨_, A, .row b 1 (len - n), _, rfl, ⟨rfl, rfl⟩, ?_, ?_⟩
  · refine Rep.row b 1 (len - n) c Nn t ?_ hN (by omega) hmx
    exact (Ext.setCells (M := fun x => x = b) b rfl _ _ _).shape _ _ hsh2
  · have e3 : 0 + (0 + (len - n)) = len - n := by omega
    have e4 : len - (0 + (len - n)) = n := by omega
    rw [e3, e4]
    simpa using hfin
end Go.PM

namespace Go.PM
open Go.Proofs
section
variable {P : Program} {G : Globs} {E : Amb} {A : Nat → Prop} {σ : PState} {a : Act} {w : World} {I : List Int}
/-- The names of what is handed to a function are different. -/
theorem PCalls.nd {f : FuncId} {args : List PV} {Hin : Heap} {R : PV → Heap → Prop} (h : (names Hin).Nodup → PCalls P G f args Hin R) : PCalls P G f args Hin R :=
  fun w A F vals h1 h2 h3 => h h3 w A F vals h1 h2 h3
theorem W_nd {c : Code} {K : Exit → PState → Prop} (h : (names σ.heap).Nodup → W P G I c σ K) : W P G I c σ K :=
  fun E hE A a w hs => h hs.nodup E hE A a w hs
/-- A call to which the objects Hin are handed, wherever they stand. -/
theorem pcall_mid {fn : FuncId} {args : List PV} {R : PV → Heap → Prop} {d : Option Tmp} {K : PState → Prop} (front Hin back : Heap) (he : σ.heap = front ++ (Hin ++ back)) (hc : PCalls P G fn args Hin R)
    (hk : ∀ res Hout, R res Hout → K (PState.put ⟨σ.frame, front ++ (Hout ++ back)⟩ d res)) : @pcallI false P G σ d fn args ⟨K⟩ := by
  intro E A a w vals hs hsz hvals
  have nd : (names σ.heap).Nodup := hs.nodup
  rw [he] at nd
  simp only [names, List.map_append] at nd
  obtain ⟨n1, n2, n3⟩ := List.nodup_append.1 nd
  obtain ⟨n4, n5, n6⟩ := List.nodup_append.1 n2
  have hin : ∀ x ∈ Hin, x ∈ σ.heap := fun x hx => by rw [he]; exact List.mem_append_right _ (List.mem_append_left _ hx)
  have hrest : ∀ x ∈ front ++ back, x ∈ σ.heap ∧ x.1 ∉ names Hin := fun x hx => by
    rw [he]
    rcases List.mem_append.1 hx with h | h
    · exact ⟨List.mem_append_left _ h, fun hn => n3 _ (List.mem_map.2 ⟨_, h, rfl⟩) _ (List.mem_append_left _ hn) rfl⟩
    · exact ⟨List.mem_append_right _ (List.mem_append_right _ h), fun hn => n6 _ hn _ (List.mem_map.2 ⟨_, h, rfl⟩) rfl⟩
  have hrn : (names (front ++ back)).Nodup := by
    simp only [names, List.map_append]
    exact List.nodup_append.2 ⟨n1, n5, fun x hx y hy => n3 x hx y (List.mem_append_right _ hy)⟩
  refine (hc w A (names σ.heap ++ E.F) vals hs.lt hs.globs n4 (fun n o h => hs.objs n o (hin _ h)) (fun n o h b hb => ⟨(hs.own n o (hin _ h) b hb).1, (hs.own n o (hin _ h) b hb).2.1⟩) hsz hvals).mono ?_
  rintro e w' ⟨v, A', res, Hout, rfl, hR, hr, hs'⟩
  obtain ⟨hdis, hsim⟩ := hs.calledI (fun n h => List.mem_append.2 h) hin hrest hrn hs'
  have hperm : (front ++ (Hout ++ back)).Perm (Hout ++ (front ++ back)) := by
    rw [← List.append_assoc, ← List.append_assoc]
    exact List.Perm.append_right _ List.perm_append_comm
  have hsim2 : Sim G E A' ⟨σ.frame, front ++ (Hout ++ back)⟩ a w' := hsim.sub ⟨fun x hx => hperm.mem_iff.1 hx, (List.Perm.nodup_iff (List.Perm.map _ hperm)).2 hsim.nodup⟩
  exact ⟨v, _, A', rfl, hk res Hout hR, hsim2.put d hr, fun h => Bool.noConfusion h⟩
/-- What comes back is seen in another way. -/
theorem PCalls.wxs {f : FuncId} {args : List PV} {Hin : Heap} {R R' : PV → Heap → Prop} (h : PCalls P G f args Hin R)
    (hr : ∀ res H, R res H → Wxs G (names Hin) ⟨[res], H⟩ (fun τ => ∃ res', τ.frame = [res'] ∧ R' res' τ.heap)) : PCalls P G f args Hin R' := by
  intro w A F vals h1 h2 h3 h4 h5 h6 h7
  refine (h w A F vals h1 h2 h3 h4 h5 h6 h7).mono ?_
  rintro e w' ⟨v, A', res, Hout, he, hR, hrep, hs⟩
  have hs2 : Sim G ⟨w, A, Hin.map (·.1), F⟩ A' ⟨[res], Hout⟩ ⟨#[v], []⟩ w' :=
    ⟨hs.ext, hs.lt, hs.a0, hs.a1, hs.globs, hs.nodup, hs.objs, hs.own, hs.neg, rfl, rfl, fun i p hp => by
      match i, hp with
      | 0, hp => cases hp; exact ⟨v, rfl, hrep⟩⟩
  obtain ⟨A2, τ, ⟨res', hf, hR'⟩, hs3⟩ := hr _ _ hR _ rfl _ _ _ hs2
  obtain ⟨v', hv', hrep'⟩ := hs3.frame 0 res' (by rw [hf]; rfl)
  cases hv'
  exact ⟨_, A2, res', τ.heap, he, hR', hrep', hs3.bare⟩
end
/-- An end of a link. -/
structure LE where
  win : Nat
  key : UInt64
  wait : List (List UInt8)
  acked : Nat
  got : Nat
  held : List (Nat × List UInt8)
  owing : Bool
  forged : Nat
@[reducible] def entsP (l : List (Nat × List UInt8)) : List PV := l.map fun x => .ent (pint .i64 x.1) (pl x.2)
/-- An end in memory. -/
@[reducible] def endO (e w m : Int) (s : LE) : Heap :=
  [(e, ⟨65, false, 0, [pint .i64 s.win, pq s.key, .row w 1 s.wait.length, pint .i64 s.acked, pint .i64 s.got, .mp m, pbool s.owing, pint .i64 s.forged]⟩), (w, ⟨33, true, 1, s.wait.map pl⟩), (m, ⟨63, false, 0, entsP s.held⟩)]
@[reducible] def IsEnd (e : Int) (s : LE) (H : Heap) : Prop := ∃ w m, H = endO e w m s
theorem end_nd {e w m : Int} {s : LE} (h : (names (endO e w m s)).Nodup) : (e = w) = False ∧ (w = e) = False ∧ (e = m) = False ∧ (m = e) = False ∧ (w = m) = False ∧ (m = w) = False := by
  simp only [names, List.map_cons, List.map_nil, List.nodup_cons, List.mem_cons, List.not_mem_nil, or_false, not_or] at h
  exact ⟨eq_false h.1.1, eq_false fun k => h.1.1 k.symm, eq_false h.1.2, eq_false fun k => h.1.2 k.symm, eq_false h.2.1, eq_false fun k => h.2.1 k.symm⟩
attribute [local irreducible] W PCalls pcall pcallI WL
/-- A message is sent. -/
def sendL (s : LE) (b : List UInt8) : Int × LE := if 65536 < b.length ∨ 1000 ≤ s.wait.length then (4, s) else (0, { s with wait := s.wait ++ [b] })
set_option maxRecDepth 100000 in
set_option maxHeartbeats 8000000 in
theorem send_c (G : Globs) (e : Int) (s : LE) (b : List UInt8) (hb : b.length ≤ 4294900000) (hw : s.wait.length ≤ 4294900000) (Hin : Heap) (hH : IsEnd e s Hin) :
    PCalls Try.prog G 11 [.ptr e 0, pl b] Hin (fun res H => res = pint .i64 (sendL s b).1 ∧ IsEnd e (sendL s b).2 H) := by
  obtain ⟨w, m, rfl⟩ := hH
  refine PCalls.nd fun nd => ?_
  have hM := end_nd nd
  have c1 := clone_c G b (by omega)
  by_cases hx : 65536 < b.length ∨ 1000 ≤ s.wait.length
  · rw [sendL, if_pos hx]
    (refine PCalls_f Try.func11 rfl Try.ntmps11 Try.results11 (by simp) fun fin hfin => ?_; have hnm : True := trivial; simp only [ev, Nat.reduceAdd, Nat.reduceMul, Nat.reduceSub, Nat.reduceLeDiff, Nat.reduceEqDiff, ↓reduceIte, reduceCtorEq, Nat.reduceLT, Nat.reducePow, Nat.reduceDiv, Nat.reduceMod, Nat.reduceBEq, Int.reduceLT, Int.reduceLE, Int.reduceToNat, Int.reduceAdd, Int.reduceSub, Int.reduceNeg])
    repeat' (first
    | (with_reducible apply W_seq_k; intro nx hnx)
    | (with_reducible first | refine wr 19 ?_ | refine wd (id := 3) 19 3 (.op 0 true (.op 1 true (.op 2 true (.op 3 true (.op 4 true (.op 5 true (.op 6 true (.op 7 true (.op 8 false (.op 9 true (.op 10 true (.op 11 false (.done))))))))))))) (by kernel_rfl) ?_)
    | ((with_reducible first | (apply WL_op; intro nx hnx) | refine Ev_out ?_ | refine wc ?_ | (apply popsD_op; intro nx hnx) | (refine popsD_alt ?_ ?_; intro nx hnx) | (refine pf hnm fun nm hnm => ?_; try simp only [fmb] at hnm) | (refine pm hnm fun nm hnm => ?_; try simp only [fmb] at hnm)); try (simp (maxSteps := 2000000) (disch := omega) only [ev, ↓evp, PV.cells, PV.one, PV.mem?, Value.cells, Nat.reduceAdd, Nat.reduceMul, Nat.reduceSub, Nat.reduceLeDiff, Nat.reduceEqDiff, ↓reduceIte, reduceCtorEq, Nat.reduceLT, Nat.reducePow, Nat.reduceDiv, Nat.reduceMod, Nat.reduceBEq, Int.reduceLT, Int.reduceLE, Int.reduceToNat, Int.reduceAdd, Int.reduceSub, Int.reduceNeg, hnm, Try.tf0, Try.tf1, Try.tf2, Try.tf3, Try.tf4, Try.tf5, Try.tf28, Try.tf33, Try.tf34, Try.tf35, Try.tf65, Try.call32, hM]))
    | ((with_reducible first | apply W_block | apply W_scope | apply WL_nil | apply W_label | apply W_skip | apply W_exit | apply W_ret | apply popsD_done | exact popsD_stop) <;> try simp only [kks, Nat.reduceAdd, Nat.reduceMul, Nat.reduceSub, Nat.reduceLeDiff, Nat.reduceEqDiff, ↓reduceIte, reduceCtorEq, Nat.reduceLT, Nat.reducePow, Nat.reduceDiv, Nat.reduceMod, Nat.reduceBEq, Int.reduceLT, Int.reduceLE, Int.reduceToNat, Int.reduceAdd, Int.reduceSub, Int.reduceNeg])
    | (with_reducible apply pg <;> (intro hc; (try simp only [hcb, Nat.reduceAdd, Nat.reduceMul, Nat.reduceSub, Nat.reduceLeDiff, Nat.reduceEqDiff, ↓reduceIte, reduceCtorEq, Nat.reduceLT, Nat.reducePow, Nat.reduceDiv, Nat.reduceMod, Nat.reduceBEq, Int.reduceLT, Int.reduceLE, Int.reduceToNat, Int.reduceAdd, Int.reduceSub, Int.reduceNeg, ne_eq, forall_const] at hc); first | (exfalso; omega) | exact absurd trivial hc | skip))
    | (with_reducible apply hnx; clear hnx nx)
    | (with_reducible refine And.intro (by omega) ?_)
    | (with_reducible refine And.intro ?_ ?_)
    | (clear hnx nx; with_reducible apply hnx; clear hnx nx)
    | (clear hnx nx; clear hnx nx; with_reducible apply hnx; clear hnx nx))
    all_goals first
      | (exfalso
         omega)
      | (refine hfin _ _ (Fin_ret1 rfl (Sub_refl nd) ?_); simp only [cob, Nat.reduceAdd, Nat.reduceMul, Nat.reduceSub, Nat.reduceLeDiff, Nat.reduceEqDiff, ↓reduceIte, reduceCtorEq, Nat.reduceLT, Nat.reducePow, Nat.reduceDiv, Nat.reduceMod, Nat.reduceBEq, Int.reduceLT, Int.reduceLE, Int.reduceToNat, Int.reduceAdd, Int.reduceSub, Int.reduceNeg]
         exact ⟨by trivial, _, _, rfl⟩)
  · rw [sendL, if_neg hx]
    (refine PCalls_f Try.func11 rfl Try.ntmps11 Try.results11 (by simp) fun fin hfin => ?_; have hnm : True := trivial; simp only [ev, Nat.reduceAdd, Nat.reduceMul, Nat.reduceSub, Nat.reduceLeDiff, Nat.reduceEqDiff, ↓reduceIte, reduceCtorEq, Nat.reduceLT, Nat.reducePow, Nat.reduceDiv, Nat.reduceMod, Nat.reduceBEq, Int.reduceLT, Int.reduceLE, Int.reduceToNat, Int.reduceAdd, Int.reduceSub, Int.reduceNeg])
    repeat' (first
    | (with_reducible apply W_seq_k; intro nx hnx)
    | (with_reducible first | refine wr 19 ?_ | refine wd (id := 3) 19 3 (.op 0 true (.op 1 true (.op 2 true (.op 3 true (.op 4 true (.op 5 true (.op 6 true (.op 7 true (.op 8 false (.op 9 true (.op 10 true (.op 11 false (.done))))))))))))) (by kernel_rfl) ?_)
    | (with_reducible refine WL_born (by simp) rfl (by simp) ?_; simp only [elemsOf, nl, bir, Nat.reduceAdd, Nat.reduceMul, Nat.reduceSub, Nat.reduceLeDiff, Nat.reduceEqDiff, ↓reduceIte, reduceCtorEq, Nat.reduceLT, Nat.reducePow, Nat.reduceDiv, Nat.reduceMod, Nat.reduceBEq, Int.reduceLT, Int.reduceLE, Int.reduceToNat, Int.reduceAdd, Int.reduceSub, Int.reduceNeg])
    | ((with_reducible first | (apply WL_op; intro nx hnx) | refine Ev_out ?_ | refine wc ?_ | (apply popsD_op; intro nx hnx) | (refine popsD_alt ?_ ?_; intro nx hnx) | (refine pf hnm fun nm hnm => ?_; try simp only [fmb] at hnm) | (refine pborn_im ?_; simp only [elemsOf, nl, bir, Nat.reduceAdd, Nat.reduceMul, Nat.reduceSub, Nat.reduceLeDiff, Nat.reduceEqDiff, ↓reduceIte, reduceCtorEq, Nat.reduceLT, Nat.reducePow, Nat.reduceDiv, Nat.reduceMod, Nat.reduceBEq, Int.reduceLT, Int.reduceLE, Int.reduceToNat, Int.reduceAdd, Int.reduceSub, Int.reduceNeg])); try (simp (maxSteps := 2000000) (disch := omega) only [ev, ↓evp, PV.cells, PV.one, PV.mem?, Value.cells, Nat.reduceAdd, Nat.reduceMul, Nat.reduceSub, Nat.reduceLeDiff, Nat.reduceEqDiff, ↓reduceIte, reduceCtorEq, Nat.reduceLT, Nat.reducePow, Nat.reduceDiv, Nat.reduceMod, Nat.reduceBEq, Int.reduceLT, Int.reduceLE, Int.reduceToNat, Int.reduceAdd, Int.reduceSub, Int.reduceNeg, hnm, Try.tf0, Try.tf1, Try.tf2, Try.tf3, Try.tf4, Try.tf5, Try.tf28, Try.tf33, Try.tf34, Try.tf35, Try.tf65, Try.call32, hM]))
    | ((with_reducible first | apply W_block | apply W_scope | apply WL_nil | apply W_label | apply W_skip | apply W_exit | apply W_ret | apply popsD_done | exact popsD_stop) <;> try simp only [kks, Nat.reduceAdd, Nat.reduceMul, Nat.reduceSub, Nat.reduceLeDiff, Nat.reduceEqDiff, ↓reduceIte, reduceCtorEq, Nat.reduceLT, Nat.reducePow, Nat.reduceDiv, Nat.reduceMod, Nat.reduceBEq, Int.reduceLT, Int.reduceLE, Int.reduceToNat, Int.reduceAdd, Int.reduceSub, Int.reduceNeg])
    | (with_reducible apply pg <;> (intro hc; (try simp only [hcb, Nat.reduceAdd, Nat.reduceMul, Nat.reduceSub, Nat.reduceLeDiff, Nat.reduceEqDiff, ↓reduceIte, reduceCtorEq, Nat.reduceLT, Nat.reducePow, Nat.reduceDiv, Nat.reduceMod, Nat.reduceBEq, Int.reduceLT, Int.reduceLE, Int.reduceToNat, Int.reduceAdd, Int.reduceSub, Int.reduceNeg, ne_eq, forall_const] at hc); first | (exfalso; omega) | exact absurd trivial hc | skip))
    | (with_reducible apply hnx; clear hnx nx)
    | (with_reducible refine And.intro (by omega) ?_)
    | (with_reducible refine And.intro ?_ ?_)
    | (with_reducible refine pe (c1) ?_)
    | (clear hnx nx; with_reducible apply hnx; clear hnx nx)
    | (clear hnx nx; clear hnx nx; with_reducible apply hnx; clear hnx nx))
    all_goals first
      | (exfalso
         omega)
      | skip
    refine hfin _ _ (Fin_ret1 rfl (H := endO e nm m { s with wait := s.wait ++ [b] }) ⟨?_, ?_⟩ ⟨by simp only [fr_getD_cons, Nat.reduceEqDiff, Nat.reduceLT, ↓reduceIte], _, _, rfl⟩)
    · intro x hx
      simp only [List.mem_cons, List.not_mem_nil, or_false] at hx ⊢
      rcases hx with rfl | rfl | rfl
      · exact .inr (.inl (by simp))
      · exact .inl (by simp [flat, PV.cells])
      · exact .inr (.inr rfl)
    · simp [names, hM, hnm]
set_option maxRecDepth 100000 in
set_option maxHeartbeats 8000000 in
theorem waiting_c (G : Globs) (e : Int) (s : LE) (Hin : Heap) (hH : IsEnd e s Hin) :
    PCalls Try.prog G 21 [.ptr e 0] Hin (fun res H => res = pint .i64 s.wait.length ∧ H = Hin) := by
  obtain ⟨w, m, rfl⟩ := hH
  refine PCalls.nd fun nd => ?_
  have hM := end_nd nd
  (refine PCalls_f Try.func21 rfl Try.ntmps21 Try.results21 (by simp) fun fin hfin => ?_; have hnm : True := trivial; simp only [ev, Nat.reduceAdd, Nat.reduceMul, Nat.reduceSub, Nat.reduceLeDiff, Nat.reduceEqDiff, ↓reduceIte, reduceCtorEq, Nat.reduceLT, Nat.reducePow, Nat.reduceDiv, Nat.reduceMod, Nat.reduceBEq, Int.reduceLT, Int.reduceLE, Int.reduceToNat, Int.reduceAdd, Int.reduceSub, Int.reduceNeg])
  repeat' (first
    | (with_reducible apply W_seq_k; intro nx hnx)
    | (with_reducible first | refine wr 5 ?_)
    | ((with_reducible first | (apply WL_op; intro nx hnx) | refine Ev_out ?_ | refine wc ?_); try (simp (maxSteps := 2000000) (disch := omega) only [ev, ↓evp, PV.cells, PV.one, PV.mem?, Value.cells, Nat.reduceAdd, Nat.reduceMul, Nat.reduceSub, Nat.reduceLeDiff, Nat.reduceEqDiff, ↓reduceIte, reduceCtorEq, Nat.reduceLT, Nat.reducePow, Nat.reduceDiv, Nat.reduceMod, Nat.reduceBEq, Int.reduceLT, Int.reduceLE, Int.reduceToNat, Int.reduceAdd, Int.reduceSub, Int.reduceNeg, hnm, Try.tf0, Try.tf2, Try.tf3, Try.tf5, Try.tf28, Try.tf33, Try.tf35, Try.tf65, hM]))
    | ((with_reducible first | apply W_block | apply W_scope | apply WL_nil | apply W_label | apply W_skip | apply W_exit | apply W_ret) <;> try simp only [kks, Nat.reduceAdd, Nat.reduceMul, Nat.reduceSub, Nat.reduceLeDiff, Nat.reduceEqDiff, ↓reduceIte, reduceCtorEq, Nat.reduceLT, Nat.reducePow, Nat.reduceDiv, Nat.reduceMod, Nat.reduceBEq, Int.reduceLT, Int.reduceLE, Int.reduceToNat, Int.reduceAdd, Int.reduceSub, Int.reduceNeg])
    | (with_reducible apply hnx; clear hnx nx)
    | (with_reducible refine And.intro (by omega) ?_)
    | (with_reducible refine And.intro ?_ ?_)
    | (clear hnx nx; with_reducible apply hnx; clear hnx nx)
    | (clear hnx nx; clear hnx nx; with_reducible apply hnx; clear hnx nx))
  refine hfin _ _ (Fin_ret1 rfl (Sub_refl nd) ?_); simp only [cob, Nat.reduceAdd, Nat.reduceMul, Nat.reduceSub, Nat.reduceLeDiff, Nat.reduceEqDiff, ↓reduceIte, reduceCtorEq, Nat.reduceLT, Nat.reducePow, Nat.reduceDiv, Nat.reduceMod, Nat.reduceBEq, Int.reduceLT, Int.reduceLE, Int.reduceToNat, Int.reduceAdd, Int.reduceSub, Int.reduceNeg]
  exact ⟨by trivial, by trivial⟩
set_option maxRecDepth 100000 in
set_option maxHeartbeats 8000000 in
theorem forged_c (G : Globs) (e : Int) (s : LE) (Hin : Heap) (hH : IsEnd e s Hin) :
    PCalls Try.prog G 22 [.ptr e 0] Hin (fun res H => res = pint .i64 s.forged ∧ H = Hin) := by
  obtain ⟨w, m, rfl⟩ := hH
  refine PCalls.nd fun nd => ?_
  have hM := end_nd nd
  (refine PCalls_f Try.func22 rfl Try.ntmps22 Try.results22 (by simp) fun fin hfin => ?_; have hnm : True := trivial; simp only [ev, Nat.reduceAdd, Nat.reduceMul, Nat.reduceSub, Nat.reduceLeDiff, Nat.reduceEqDiff, ↓reduceIte, reduceCtorEq, Nat.reduceLT, Nat.reducePow, Nat.reduceDiv, Nat.reduceMod, Nat.reduceBEq, Int.reduceLT, Int.reduceLE, Int.reduceToNat, Int.reduceAdd, Int.reduceSub, Int.reduceNeg])
  repeat' (first
    | (with_reducible apply W_seq_k; intro nx hnx)
    | (with_reducible first | refine wr 5 ?_)
    | ((with_reducible first | (apply WL_op; intro nx hnx) | refine Ev_out ?_ | refine wc ?_); try (simp (maxSteps := 2000000) (disch := omega) only [ev, ↓evp, PV.cells, PV.one, PV.mem?, Value.cells, Nat.reduceAdd, Nat.reduceMul, Nat.reduceSub, Nat.reduceLeDiff, Nat.reduceEqDiff, ↓reduceIte, reduceCtorEq, Nat.reduceLT, Nat.reducePow, Nat.reduceDiv, Nat.reduceMod, Nat.reduceBEq, Int.reduceLT, Int.reduceLE, Int.reduceToNat, Int.reduceAdd, Int.reduceSub, Int.reduceNeg, hnm, Try.tf0, Try.tf3, Try.tf7, Try.tf35, Try.tf65, hM]))
    | ((with_reducible first | apply W_block | apply W_scope | apply WL_nil | apply W_label | apply W_skip | apply W_exit | apply W_ret) <;> try simp only [kks, Nat.reduceAdd, Nat.reduceMul, Nat.reduceSub, Nat.reduceLeDiff, Nat.reduceEqDiff, ↓reduceIte, reduceCtorEq, Nat.reduceLT, Nat.reducePow, Nat.reduceDiv, Nat.reduceMod, Nat.reduceBEq, Int.reduceLT, Int.reduceLE, Int.reduceToNat, Int.reduceAdd, Int.reduceSub, Int.reduceNeg])
    | (with_reducible apply hnx; clear hnx nx)
    | (with_reducible refine And.intro (by omega) ?_)
    | (with_reducible refine And.intro ?_ ?_)
    | (clear hnx nx; with_reducible apply hnx; clear hnx nx)
    | (clear hnx nx; clear hnx nx; with_reducible apply hnx; clear hnx nx))
  refine hfin _ _ (Fin_ret1 rfl (Sub_refl nd) ?_); simp only [cob, Nat.reduceAdd, Nat.reduceMul, Nat.reduceSub, Nat.reduceLeDiff, Nat.reduceEqDiff, ↓reduceIte, reduceCtorEq, Nat.reduceLT, Nat.reducePow, Nat.reduceDiv, Nat.reduceMod, Nat.reduceBEq, Int.reduceLT, Int.reduceLE, Int.reduceToNat, Int.reduceAdd, Int.reduceSub, Int.reduceNeg]
  exact ⟨by trivial, by trivial⟩
/-- A new end. -/
def newL (win : Nat) (key : UInt64) : LE := ⟨win, key, [], 0, 0, [], false, 0⟩
/-- An end comes back, or none. -/
@[reducible] def NewR (win : Int) (key : UInt64) (res : PV) (H : Heap) : Prop :=
  (¬ (1 ≤ win ∧ win ≤ 16) ∧ res = .tuple [.val (.pointer none), pint .i64 1] ∧ H = []) ∨ (1 ≤ win ∧ win ≤ 16 ∧ ∃ e, res = .tuple [.ptr e 0, pint .i64 0] ∧ IsEnd e (newL win.toNat key) H)
set_option maxRecDepth 100000 in
set_option maxHeartbeats 8000000 in
theorem new_c (G : Globs) (win : Int) (key : UInt64) : PCalls Try.prog G 28 [pint .i64 win, pq key] [] (NewR win key) := by
  have h0 : PCalls Try.prog G 28 [pint .i64 win, pq key] [] (fun res H => (¬ (1 ≤ win ∧ win ≤ 16) ∧ res = .tuple [.val (.pointer none), pint .i64 1] ∧ H = []) ∨
      (1 ≤ win ∧ win ≤ 16 ∧ ∃ e m : Int, (¬ e = m ∧ ¬ m = e) ∧ res = .tuple [.ptr e 0, pint .i64 0] ∧ H = [(e, ⟨65, false, 0, [pint .i64 win, pq key, pnil, pint .i64 0, pint .i64 0, .mp m, pbool false, pint .i64 0]⟩), (m, ⟨63, false, 0, []⟩)])) := by
    (refine PCalls_f Try.func28 rfl Try.ntmps28 Try.results28 (by simp) fun fin hfin => ?_; have hnm : True := trivial; simp only [ev, Nat.reduceAdd, Nat.reduceMul, Nat.reduceSub, Nat.reduceLeDiff, Nat.reduceEqDiff, ↓reduceIte, reduceCtorEq, Nat.reduceLT, Nat.reducePow, Nat.reduceDiv, Nat.reduceMod, Nat.reduceBEq, Int.reduceLT, Int.reduceLE, Int.reduceToNat, Int.reduceAdd, Int.reduceSub, Int.reduceNeg])
    repeat' (first
    | (with_reducible apply W_seq_k; intro nx hnx)
    | (with_reducible first | refine wr 51 ?_)
    | ((with_reducible first | (apply WL_op; intro nx hnx) | refine Ev_out ?_ | refine wc ?_ | (refine pf hnm fun nm hnm => ?_; try simp only [fmb] at hnm) | (refine pm hnm fun nm hnm => ?_; try simp only [fmb] at hnm)); try (simp (maxSteps := 2000000) (disch := omega) only [ev, ↓evp, PV.cells, PV.one, PV.mem?, Value.cells, Nat.reduceAdd, Nat.reduceMul, Nat.reduceSub, Nat.reduceLeDiff, Nat.reduceEqDiff, ↓reduceIte, reduceCtorEq, Nat.reduceLT, Nat.reducePow, Nat.reduceDiv, Nat.reduceMod, Nat.reduceBEq, Int.reduceLT, Int.reduceLE, Int.reduceToNat, Int.reduceAdd, Int.reduceSub, Int.reduceNeg, hnm, Try.tf3, Try.tf4, Try.tf22, Try.tf34, Try.tf35, Try.tf63, Try.tf65]))
    | ((with_reducible first | apply W_block | apply W_scope | apply WL_nil | apply W_label | apply W_skip | apply W_exit | apply W_ret) <;> try simp only [kks, Nat.reduceAdd, Nat.reduceMul, Nat.reduceSub, Nat.reduceLeDiff, Nat.reduceEqDiff, ↓reduceIte, reduceCtorEq, Nat.reduceLT, Nat.reducePow, Nat.reduceDiv, Nat.reduceMod, Nat.reduceBEq, Int.reduceLT, Int.reduceLE, Int.reduceToNat, Int.reduceAdd, Int.reduceSub, Int.reduceNeg])
    | (with_reducible apply pg <;> (intro hc; (try simp only [hcb, Nat.reduceAdd, Nat.reduceMul, Nat.reduceSub, Nat.reduceLeDiff, Nat.reduceEqDiff, ↓reduceIte, reduceCtorEq, Nat.reduceLT, Nat.reducePow, Nat.reduceDiv, Nat.reduceMod, Nat.reduceBEq, Int.reduceLT, Int.reduceLE, Int.reduceToNat, Int.reduceAdd, Int.reduceSub, Int.reduceNeg, ne_eq, forall_const] at hc); first | (exfalso; omega) | exact absurd trivial hc | skip))
    | (with_reducible apply hnx; clear hnx nx)
    | (with_reducible refine And.intro (by omega) ?_)
    | (with_reducible refine And.intro ?_ ?_)
    | (clear hnx nx; with_reducible apply hnx; clear hnx nx)
    | (clear hnx nx; clear hnx nx; with_reducible apply hnx; clear hnx nx))
    all_goals first
      | (refine hfin _ _ (Fin_ret2 rfl rfl (Sub_nil _) ?_); simp only [cob, Nat.reduceAdd, Nat.reduceMul, Nat.reduceSub, Nat.reduceLeDiff, Nat.reduceEqDiff, ↓reduceIte, reduceCtorEq, Nat.reduceLT, Nat.reducePow, Nat.reduceDiv, Nat.reduceMod, Nat.reduceBEq, Int.reduceLT, Int.reduceLE, Int.reduceToNat, Int.reduceAdd, Int.reduceSub, Int.reduceNeg]
         exact .inl ⟨by omega, by trivial, by trivial⟩)
      | (rename_i m hm
         refine hfin _ _ (Fin_ret2 rfl rfl (Sub_refl (by simp [names, hnm])) (.inr ⟨by omega, by omega, nm, _, ⟨of_eq_false hnm.1, of_eq_false hnm.2⟩, ?_, rfl⟩))
         simp only [fr_getD_cons, Nat.reduceEqDiff, Nat.reduceLT, ↓reduceIte])
  refine h0.wxs ?_
  rintro res H (⟨h1, rfl, rfl⟩ | ⟨h1, h2, e, m, hem, rfl, rfl⟩)
  · exact Wxs.of (Wx.refl _) ⟨_, rfl, .inl ⟨h1, rfl, rfl⟩⟩
  · refine Wxs.adopt_c e 2 33 1 (o := ⟨65, false, 0, [pint .i64 win, pq key, pnil, pint .i64 0, pint .i64 0, .mp m, pbool false, pint .i64 0]⟩) (by simp [look]) rfl fun w hw => Wxs.of (τ := ⟨[.tuple [.ptr e 0, pint .i64 0]], endO e w m (newL win.toNat key)⟩) (Wx.of_wk ⟨?_, ?_⟩) ⟨_, rfl, .inr ⟨h1, h2, e, rfl, w, m, rfl⟩⟩
    · exact ⟨.inr rfl, trivial⟩
    · simp only [names, upd, List.map_cons, List.map_nil, if_true] at hw ⊢
      simp only [List.mem_cons, List.not_mem_nil, or_false, not_or] at hw
      refine ⟨?_, ?_⟩
      · intro x hx
        simp only [List.mem_cons, List.not_mem_nil, or_false] at hx ⊢
        rcases hx with rfl | rfl | rfl
        · exact .inr (.inl (by simp [newL, Int.toNat_of_nonneg (show 0 ≤ win by omega)]))
        · exact .inl rfl
        · exact .inr (.inr rfl)
      · simp only [names, List.map_cons, List.map_nil, List.nodup_cons, List.mem_cons, List.not_mem_nil, or_false, not_or, List.nodup_nil, and_true, not_false_eq_true]
        exact ⟨⟨fun h => hw.1 h.symm, hem.1⟩, hw.2⟩
end Go.PM

namespace Go.PM
open Go.Proofs
section
variable {P : Program} {G : Globs} {I : List Int}
theorem fr_one (p : PV) : fr 1 [(0, p)] = [p] := by unfold fr; rfl
theorem elems_all (xs : List PV) : elemsOf 1 xs xs.length = xs := by simp [elemsOf]
/-- A row that comes back is turned no more. -/
theorem Wxs_row {n : Int} {ty : TypeId} {xs : List PV} {H : Heap} {T : PState → Prop} (hn : n ∉ I) (hH : ∀ x ∈ H, x.1 ≠ n ∧ ∀ u ∈ x.2.cells, frz1 n xs u = u ∧ u.one = true) (hT : T ⟨[.list 1 xs], H⟩) :
    Wxs G I ⟨[.row n 1 xs.length], (n, ⟨ty, true, 1, xs⟩) :: H⟩ T := by
  have h1 := Wx_bornH (G := G) (I := I) (N := 1) (d := 0) (L := []) (n := n) (e := ty) (es := 1) (len := xs.length) (cells := xs) (H := H) hn (by omega) (by simp) hH
  rw [fr_one, fr_one, elems_all] at h1
  exact Wxs.of h1 hT
theorem end_frz {e w m n : Int} {s : LE} {xs : List PV} (h1 : ¬ n = e) (h2 : ¬ n = w) (h3 : ¬ n = m) : ∀ x ∈ endO e w m s, x.1 ≠ n ∧ ∀ u ∈ x.2.cells, frz1 n xs u = u ∧ u.one = true := by
  have k2 : ¬ w = n := fun h => h2 h.symm
  have k3 : ¬ m = n := fun h => h3 h.symm
  intro x hx
  simp only [List.mem_cons, List.not_mem_nil, or_false] at hx
  rcases hx with rfl | rfl | rfl
  · refine ⟨fun h => h1 h.symm, fun u hu => ?_⟩
    simp only [List.mem_cons, List.not_mem_nil, or_false] at hu
    rcases hu with rfl | rfl | rfl | rfl | rfl | rfl | rfl | rfl <;> simp [frz1, k2, PV.one, Value.oneCell']
  · refine ⟨k2, fun u hu => ?_⟩
    obtain ⟨b, _, rfl⟩ := List.mem_map.1 hu
    exact ⟨rfl, rfl⟩
  · refine ⟨k3, fun u hu => ?_⟩
    obtain ⟨b, _, rfl⟩ := List.mem_map.1 hu
    exact ⟨rfl, rfl⟩
end
/-- An entry is taken out. -/
def pull (k : Nat) : List (Nat × List UInt8) → Option (List UInt8 × List (Nat × List UInt8))
  | [] => none
  | x :: r => if x.1 = k then some (x.2, r) else (pull k r).map fun y => (y.1, x :: y.2)
theorem pull_none {k : Nat} : ∀ {h : List (Nat × List UInt8)} (i : Nat), pull k h = none → mfind (.int .i64 (k : Int)) (entsP h) i = some none
  | [], _, _ => rfl
  | x :: r, i, hp => by
    simp only [pull] at hp
    split at hp
    · cases hp
    · rename_i hx
      have hr : pull k r = none := by simpa using hp
      have hne : ((k : Int) == (x.1 : Int)) = false := by
        rw [beq_eq_false_iff_ne]
        intro h
        exact hx (by omega)
      simp only [entsP, List.map_cons, mfind, vsame, if_true, hne]
      exact pull_none (i + 1) hr
theorem pull_some {k : Nat} : ∀ {h : List (Nat × List UInt8)} {b : List UInt8} {h' : List (Nat × List UInt8)} (i : Nat), pull k h = some (b, h') →
    ∃ j, mfind (.int .i64 (k : Int)) (entsP h) i = some (some (i + j, pl b)) ∧ (entsP h).eraseIdx j = entsP h' ∧ h'.length + 1 = h.length ∧ j < h.length
  | [], _, _, _, hp => by cases hp
  | x :: r, b, h', i, hp => by
    simp only [pull] at hp
    split at hp
    · rename_i hx
      cases hp
      have hne : ((k : Int) == (x.1 : Int)) = true := by
        rw [beq_iff_eq]
        omega
      refine ⟨0, ?_, rfl, rfl, Nat.succ_pos _⟩
      simp only [entsP, List.map_cons, mfind, vsame, if_true, hne, Nat.add_zero]
    · rename_i hx
      cases hr : pull k r with
      | none => rw [hr] at hp; cases hp
      | some y =>
        rw [hr] at hp
        simp only [Option.map_some, Option.some.injEq, Prod.mk.injEq] at hp
        obtain ⟨rfl, rfl⟩ := hp
        obtain ⟨y1, y2⟩ := y
        have hne : ((k : Int) == (x.1 : Int)) = false := by
          rw [beq_eq_false_iff_ne]
          intro h
          exact hx (by omega)
        obtain ⟨j, h1, h2, h3, h4⟩ := pull_some (i + 1) hr
        refine ⟨j + 1, ?_, ?_, by simp [h3], by simp [h4]⟩
        · simp only [entsP, List.map_cons, mfind, vsame, if_true, hne]
          rw [h1, show i + 1 + j = i + (j + 1) by omega]
        · simp only [List.map_cons, List.eraseIdx_cons_succ, h2]
/-- What is delivered. -/
def delF : Nat → Nat → List (Nat × List UInt8) → List (List UInt8) × Nat × List (Nat × List UInt8)
  | 0, g, h => ([], g, h)
  | n + 1, g, h => match pull (g + 1) h with
    | none => ([], g, h)
    | some (b, h') => (b :: (delF n (g + 1) h').1, (delF n (g + 1) h').2)
def delL (s : LE) : List (List UInt8) × LE := ((delF s.held.length s.got s.held).1, { s with got := (delF s.held.length s.got s.held).2.1, held := (delF s.held.length s.got s.held).2.2 })
theorem delL_none {s : LE} (h : pull (s.got + 1) s.held = none) : delL s = ([], s) := by
  have e : delF s.held.length s.got s.held = ([], s.got, s.held) := by
    cases hn : s.held.length with
    | zero => rfl
    | succ n => simp only [delF, h]
  simp only [delL, e]
theorem delL_some {s : LE} {b : List UInt8} {h' : List (Nat × List UInt8)} (h : pull (s.got + 1) s.held = some (b, h')) :
    delL s = (b :: (delL { s with got := s.got + 1, held := h' }).1, (delL { s with got := s.got + 1, held := h' }).2) := by
  obtain ⟨j, _, _, h3, _⟩ := pull_some 0 h
  have e : delF s.held.length s.got s.held = (b :: (delF h'.length (s.got + 1) h').1, (delF h'.length (s.got + 1) h').2) := by
    rw [← h3]
    simp only [delF, h]
  simp only [delL, e]
attribute [local irreducible] W PCalls pcall pcallI WL
set_option maxRecDepth 100000 in
set_option maxHeartbeats 8000000 in
theorem deliver_r (G : Globs) (e w m : Int) (s : LE) (hh : s.held.length ≤ 4294900000) (hg : s.got + s.held.length ≤ 4611686018427387904) :
    PCalls Try.prog G 38 [.ptr e 0] (endO e w m s) (fun res H => ∃ n : Int, (¬ n = e ∧ ¬ n = w ∧ ¬ n = m) ∧ res = .row n 1 (delL s).1.length ∧ H = (n, ⟨33, true, 1, (delL s).1.map pl⟩) :: endO e w m (delL s).2) := by
  refine PCalls.nd fun nd => ?_
  have hM := end_nd nd
  (refine PCalls_f Try.func38 rfl Try.ntmps38 Try.results38 (by simp) fun fin hfin => ?_; have hnm : True := trivial; simp only [ev, simprocAttr])
  with_reducible apply W_seq_k
  intro nx hnx
  repeat' (first
    | (with_reducible first | refine wr 61 ?_ | refine wd (id := 2) 61 1 (.op 0 true (.op 1 true (.op 2 true (.op 3 true (.op 4 true (.op 5 true (.op 6 true (.op 7 true (.op 8 true (.op 9 true (.op 10 true (.op 11 true (.op 12 true (.op 13 true (.op 14 true (.done)))))))))))))))) (by kernel_rfl) ?_ | refine wd (id := 6) 61 3 (.op 0 true (.op 1 true (.op 2 true (.op 3 true (.op 4 true (.op 5 true (.op 6 true (.op 7 true (.op 8 false (.done)))))))))) (by kernel_rfl) ?_)
    | ((with_reducible first | (apply WL_op; intro nx hnx) | refine Ev_out ?_ | refine wc ?_ | (apply popsD_op; intro nx hnx) | (refine popsD_alt ?_ ?_; intro nx hnx) | (refine pf hnm fun nm hnm => ?_; try simp only [fmb] at hnm) | (refine pm hnm fun nm hnm => ?_; try simp only [fmb] at hnm)); try (simp (maxSteps := 2000000) (disch := omega) only [ev, ↓evp, PV.cells, PV.one, PV.mem?, Value.cells, simprocAttr, hnm, Try.tf0, Try.tf1, Try.tf3, Try.tf4, Try.tf5, Try.tf28, Try.tf33, Try.tf35, Try.tf63, Try.tf65, Try.tf73]))
    | ((with_reducible first | apply W_block | apply W_scope | apply WL_nil | apply W_label | apply W_skip | apply W_exit | apply W_ret | apply popsD_done | exact popsD_stop) <;> try simp only [kks, simprocAttr])
    | (with_reducible apply pg <;> (intro hc; (try simp only [hcb, simprocAttr, ne_eq, forall_const] at hc); first | (exfalso; omega) | exact absurd trivial hc | skip))
    | (with_reducible apply hnx; clear hnx nx)
    | (with_reducible refine And.intro (by omega) ?_)
    | (with_reducible refine And.intro ?_ ?_)
    | (clear hnx nx; with_reducible apply hnx; clear hnx nx)
    | (clear hnx nx; clear hnx nx; with_reducible apply hnx; clear hnx nx))
  with_reducible apply W_seq_k
  intro nx hnx
  repeat' (first
    | (with_reducible first | refine wr 61 ?_ | refine wd (id := 2) 61 1 (.op 0 true (.op 1 true (.op 2 true (.op 3 true (.op 4 true (.op 5 true (.op 6 true (.op 7 true (.op 8 true (.op 9 true (.op 10 true (.op 11 true (.op 12 true (.op 13 true (.op 14 true (.done)))))))))))))))) (by kernel_rfl) ?_ | refine wd (id := 6) 61 3 (.op 0 true (.op 1 true (.op 2 true (.op 3 true (.op 4 true (.op 5 true (.op 6 true (.op 7 true (.op 8 false (.done)))))))))) (by kernel_rfl) ?_)
    | ((with_reducible first | (apply WL_op; intro nx hnx) | refine Ev_out ?_ | refine wc ?_ | (apply popsD_op; intro nx hnx) | (refine popsD_alt ?_ ?_; intro nx hnx) | (refine pf hnm fun nm hnm => ?_; try simp only [fmb] at hnm) | (refine pm hnm fun nm hnm => ?_; try simp only [fmb] at hnm)); try (simp (maxSteps := 2000000) (disch := omega) only [ev, ↓evp, PV.cells, PV.one, PV.mem?, Value.cells, simprocAttr, hnm, Try.tf0, Try.tf1, Try.tf3, Try.tf4, Try.tf5, Try.tf28, Try.tf33, Try.tf35, Try.tf63, Try.tf65, Try.tf73]))
    | ((with_reducible first | apply W_block | apply W_scope | apply WL_nil | apply W_label | apply W_skip | apply W_exit | apply W_ret | apply popsD_done | exact popsD_stop) <;> try simp only [kks, simprocAttr])
    | (with_reducible apply pg <;> (intro hc; (try simp only [hcb, simprocAttr, ne_eq, forall_const] at hc); first | (exfalso; omega) | exact absurd trivial hc | skip))
    | (with_reducible apply hnx; clear hnx nx)
    | (with_reducible refine And.intro (by omega) ?_)
    | (with_reducible refine And.intro ?_ ?_)
    | (clear hnx nx; with_reducible apply hnx; clear hnx nx)
    | (clear hnx nx; clear hnx nx; with_reducible apply hnx; clear hnx nx))
  refine W_adopt_f 3 33 1 (by simp only [fr_getD_cons, Nat.reduceEqDiff, Nat.reduceLT, ↓reduceIte]) fun nm0 hnm0 => ?_
  have hn0 : ¬ nm0 = e ∧ ¬ nm0 = w ∧ ¬ nm0 = m := by simpa [names] using hnm0
  refine W_loop_k (fun z τ => ∃ (n : Int) (acc : List (List UInt8)) (s' : LE), z = s'.held.length ∧ acc ++ (delL s').1 = (delL s).1 ∧ (delL s').2 = (delL s).2 ∧ s'.got + s'.held.length ≤ 4611686018427387904 ∧ acc.length + s'.held.length ≤ 4294900000 ∧
      τ = ⟨fr 41 [(0, .ptr e 0), (3, .row n 1 acc.length)], (n, ⟨33, true, 1, acc.map pl⟩) :: endO e w m s'⟩) s.held.length
    ⟨fr 41 [(0, .ptr e 0), (3, .row nm0 1 ([] : List (List UInt8)).length)], (nm0, ⟨33, true, 1, ([] : List (List UInt8)).map pl⟩) :: endO e w m s⟩ (by
    refine Wk_fr (by simp only [wkb, simprocAttr, List.length_nil]) ?_
    exact Sub_refl (by simp [names, hM, hn0])) ⟨nm0, [], s, rfl, rfl, rfl, hg, by simpa using hh, rfl⟩ ?_
  clear hnm0 hn0
  rintro z τ ⟨n, acc, s', rfl, h1, h2, h3, h4, rfl⟩ lp hlp
  refine W_nd fun nd2 => ?_
  have hN0 : ¬ n = e ∧ ¬ n = w ∧ ¬ n = m := by
    simp only [names, List.map_cons, List.map_nil, List.nodup_cons, List.mem_cons, List.not_mem_nil, or_false, not_or] at nd2
    exact nd2.1
  have hN : (n = e) = False ∧ (n = w) = False ∧ (n = m) = False := ⟨eq_false hN0.1, eq_false hN0.2.1, eq_false hN0.2.2⟩
  have hN2 : (e = n) = False ∧ (w = n) = False ∧ (m = n) = False := ⟨eq_false fun h => hN0.1 h.symm, eq_false fun h => hN0.2.1 h.symm, eq_false fun h => hN0.2.2 h.symm⟩
  clear nd2
  cases hp : pull (s'.got + 1) s'.held with
  | none =>
    have hm := pull_none 0 hp
    push_cast at hm
    rw [delL_none hp] at h1 h2
    rw [List.append_nil] at h1
    subst h1
    simp only at h2
    subst h2
    repeat' (first
    | (with_reducible apply W_seq_k; intro nx hnx)
    | (with_reducible first | refine wr 61 ?_ | refine wd (id := 2) 61 1 (.op 0 true (.op 1 true (.op 2 true (.op 3 true (.op 4 true (.op 5 true (.op 6 true (.op 7 true (.op 8 true (.op 9 true (.op 10 true (.op 11 true (.op 12 true (.op 13 true (.op 14 true (.done)))))))))))))))) (by kernel_rfl) ?_ | refine wd (id := 6) 61 3 (.op 0 true (.op 1 true (.op 2 true (.op 3 true (.op 4 true (.op 5 true (.op 6 true (.op 7 true (.op 8 false (.done)))))))))) (by kernel_rfl) ?_)
    | ((with_reducible first | (apply WL_op; intro nx hnx) | refine Ev_out ?_ | refine wc ?_ | (apply popsD_op; intro nx hnx) | (refine popsD_alt ?_ ?_; intro nx hnx) | (refine pf hnm fun nm hnm => ?_; try simp only [fmb] at hnm) | (refine pm hnm fun nm hnm => ?_; try simp only [fmb] at hnm)); try (simp (maxSteps := 2000000) (disch := omega) only [ev, ↓evp, PV.cells, PV.one, PV.mem?, Value.cells, simprocAttr, hnm, Try.tf0, Try.tf1, Try.tf3, Try.tf4, Try.tf5, Try.tf28, Try.tf33, Try.tf35, Try.tf63, Try.tf65, Try.tf73, hM, hN, hN2, hm]))
    | ((with_reducible first | apply W_block | apply W_scope | apply WL_nil | apply W_label | apply W_skip | apply W_exit | apply W_ret | apply popsD_done | exact popsD_stop) <;> try simp only [kks, simprocAttr])
    | (with_reducible apply pg <;> (intro hc; (try simp only [hcb, simprocAttr, ne_eq, forall_const] at hc); first | (exfalso; omega) | exact absurd trivial hc | skip))
    | (with_reducible apply hnx; clear hnx nx)
    | (with_reducible refine And.intro (by omega) ?_)
    | (with_reducible refine And.intro ?_ ?_)
    | (clear hnx nx; with_reducible apply hnx; clear hnx nx)
    | (clear hnx nx; clear hnx nx; with_reducible apply hnx; clear hnx nx))
    refine hfin _ _ (Fin_ret1 rfl (H := (n, ⟨33, true, 1, (delL s).1.map pl⟩) :: endO e w m (delL s).2) (Sub_refl (by simp [names, hM, hN, hN2])) ⟨n, hN0, ?_, rfl⟩)
    simp only [fr_getD_cons, Nat.reduceEqDiff, Nat.reduceLT, ↓reduceIte]
  | some x =>
    obtain ⟨b, h'⟩ := x
    obtain ⟨j, hm, he, hl, hj⟩ := pull_some 0 hp
    push_cast at hm
    rw [delL_some hp] at h1 h2
    repeat' (first
    | (with_reducible apply W_seq_k; intro nx hnx)
    | (with_reducible first | refine wr 61 ?_ | refine wd (id := 2) 61 1 (.op 0 true (.op 1 true (.op 2 true (.op 3 true (.op 4 true (.op 5 true (.op 6 true (.op 7 true (.op 8 true (.op 9 true (.op 10 true (.op 11 true (.op 12 true (.op 13 true (.op 14 true (.done)))))))))))))))) (by kernel_rfl) ?_ | refine wd (id := 6) 61 3 (.op 0 true (.op 1 true (.op 2 true (.op 3 true (.op 4 true (.op 5 true (.op 6 true (.op 7 true (.op 8 false (.done)))))))))) (by kernel_rfl) ?_)
    | ((with_reducible first | (apply WL_op; intro nx hnx) | refine Ev_out ?_ | refine wc ?_ | (apply popsD_op; intro nx hnx) | (refine popsD_alt ?_ ?_; intro nx hnx) | (refine pf hnm fun nm hnm => ?_; try simp only [fmb] at hnm) | (refine pm hnm fun nm hnm => ?_; try simp only [fmb] at hnm)); try (simp (maxSteps := 2000000) (disch := omega) only [ev, ↓evp, PV.cells, PV.one, PV.mem?, Value.cells, simprocAttr, hnm, Try.tf0, Try.tf1, Try.tf3, Try.tf4, Try.tf5, Try.tf28, Try.tf33, Try.tf35, Try.tf63, Try.tf65, Try.tf73, hM, hN, hN2, hm, he]))
    | ((with_reducible first | apply W_block | apply W_scope | apply WL_nil | apply W_label | apply W_skip | apply W_exit | apply W_ret | apply popsD_done | exact popsD_stop) <;> try simp only [kks, simprocAttr])
    | (with_reducible apply pg <;> (intro hc; (try simp only [hcb, simprocAttr, ne_eq, forall_const] at hc); first | (exfalso; omega) | exact absurd trivial hc | skip))
    | (with_reducible apply hnx; clear hnx nx)
    | (with_reducible refine And.intro (by omega) ?_)
    | (with_reducible refine And.intro ?_ ?_)
    | (clear hnx nx; with_reducible apply hnx; clear hnx nx)
    | (clear hnx nx; clear hnx nx; with_reducible apply hnx; clear hnx nx))
    refine hlp _ h'.length _ (by omega) ?_ ⟨nm, acc ++ [b], { s' with got := s'.got + 1, held := h' }, rfl, by rw [List.append_assoc]; exact h1, h2, by show s'.got + 1 + h'.length ≤ _; omega, by rw [List.length_append]; show acc.length + 1 + h'.length ≤ _; omega, rfl⟩
    refine Wk_fr (by simp only [wkb, simprocAttr, List.length_append, List.length_cons, List.length_nil]) ?_
    refine ⟨?_, ?_⟩
    · intro x hx
      simp only [List.mem_cons, List.not_mem_nil, or_false] at hx ⊢
      rcases hx with rfl | rfl | rfl | rfl
      · exact .inl (by simp)
      · exact .inr (.inr (.inl (by simp)))
      · exact .inr (.inr (.inr (.inl rfl)))
      · exact .inr (.inr (.inr (.inr rfl)))
    · simp [names, hM, hnm]
theorem deliver_c (G : Globs) (e w m : Int) (s : LE) (hh : s.held.length ≤ 4294900000) (hg : s.got + s.held.length ≤ 4611686018427387904) :
    PCalls Try.prog G 38 [.ptr e 0] (endO e w m s) (fun res H => res = .list 1 ((delL s).1.map pl) ∧ H = endO e w m (delL s).2) := by
  refine (deliver_r G e w m s hh hg).wxs ?_
  rintro _ _ ⟨n, ⟨h1, h2, h3⟩, rfl, rfl⟩
  have hl : (delL s).1.length = ((delL s).1.map pl).length := by rw [List.length_map]
  rw [hl]
  exact Wxs_row (by simp [names, h1, h2, h3]) (end_frz h1 h2 h3) ⟨_, rfl, rfl, rfl⟩
end Go.PM

namespace Go.PM
open Go.Proofs
section
variable {P : Program} {G : Globs} {I : List Int}
/-- What comes back is read in another way. -/
theorem PCalls.rep {f : FuncId} {args : List PV} {Hin : Heap} {R R' : PV → Heap → Prop} (h : PCalls P G f args Hin R)
    (hr : ∀ res H, R res H → ∃ res', (∀ w A v, Rep w A res v → Rep w A res' v) ∧ R' res' H) : PCalls P G f args Hin R' := by
  intro w A F vals h1 h2 h3 h4 h5 h6 h7
  refine (h w A F vals h1 h2 h3 h4 h5 h6 h7).mono ?_
  rintro e w' ⟨v, A', res, Hout, he, hR, hrep, hs⟩
  obtain ⟨res', hf, hR'⟩ := hr _ _ hR
  exact ⟨v, A', res', Hout, he, hR', hf _ _ _ hrep, hs⟩
theorem rep_nil2 (es : Nat) (q : PV) : ∀ (w : World) (A : Nat → Prop) (v : Value), Rep w A (.tuple [pnil, q]) v → Rep w A (.tuple [.list es [], q]) v := by
  intro w A v hr
  obtain ⟨f, rfl, h2⟩ := hr.tuple_inv
  exact .tuple [.list es [], q] f (fun j u hu => by
    match j, hu with
    | 0, hu => cases hu; exact nil_list es (h2 0 pnil rfl)
    | j + 1, hu => exact h2 (j + 1) u hu)
end
/-- Lists of bytes and an error come back, and an end. -/
@[reducible] def InR (e : Int) (x : (List (List UInt8) × Int) × LE) (res : PV) (H : Heap) : Prop := res = .tuple [.list 1 (x.1.1.map pl), pint .i64 x.1.2] ∧ IsEnd e x.2 H
@[reducible] def InR0 (e : Int) (x : (List (List UInt8) × Int) × LE) (res : PV) (H : Heap) : Prop := ((x.1.1 = [] ∧ res = .tuple [pnil, pint .i64 x.1.2]) ∨ res = .tuple [.list 1 (x.1.1.map pl), pint .i64 x.1.2]) ∧ IsEnd e x.2 H
theorem InR0.up {G : Globs} {f : FuncId} {args : List PV} {Hin : Heap} {e : Int} {x : (List (List UInt8) × Int) × LE} (h : PCalls Try.prog G f args Hin (InR0 e x)) : PCalls Try.prog G f args Hin (InR e x) := by
  refine h.rep ?_
  rintro res H ⟨⟨h1, rfl⟩ | rfl, hE⟩
  · refine ⟨_, rep_nil2 1 _, ?_, hE⟩
    rw [h1]
    rfl
  · exact ⟨_, fun _ _ _ h => h, rfl, hE⟩
/-- An acknowledgement is taken. -/
def ackL (s : LE) (a : Nat) : LE := if s.acked < a then { s with wait := s.wait.drop (a - s.acked), acked := a } else s
/-- A packet is held. -/
def holdL (s : LE) (q : Nat) (b : List UInt8) : LE := if s.got < q ∧ pull q s.held = none then { s with owing := true, held := s.held ++ [(q, b)] } else { s with owing := true }
/-- A packet comes in. -/
def takeL (s : LE) (p : Int × Int × List UInt8) : List (List UInt8) × LE :=
  if s.acked + s.wait.length < p.2.1.toNat ∨ s.got + 16 < p.1.toNat then ([], s)
  else if p.1.toNat = 0 then ([], ackL s p.2.1.toNat)
  else delL (holdL (ackL s p.2.1.toNat) p.1.toNat p.2.2)
/-- Bytes come in. -/
def inL (s : LE) (x : List UInt8) : (List (List UInt8) × Int) × LE :=
  if (openF s.key x).2 = 9 then (([], 9), { s with forged := s.forged + 1 })
  else if (openF s.key x).2 ≠ 0 then (([], (openF s.key x).2), s)
  else if (readF (openF s.key x).1).2 = false then (([], 2), s)
  else (((takeL s (readF (openF s.key x).1).1).1, 0), (takeL s (readF (openF s.key x).1).1).2)
theorem readF_ok {c : List UInt8} (h : (readF c).2 = true) : 0 ≤ (readF c).1.1 ∧ 0 ≤ (readF c).1.2.1 ∧ (readF c).1.2.2.length ≤ 65536 := by
  unfold readF at *
  generalize gLs gI 1 c = X at *
  generalize gS (c.drop X.2.1) = Y at *
  by_cases h1 : X.2.2 ≠ 0 ∨ X.1.length ≠ 2
  · simp only [if_pos h1] at h
    cases h
  · simp only [if_neg h1] at h ⊢
    by_cases h2 : Y.2.2 ≠ 0 ∨ X.2.1 + Y.2.1 ≠ c.length
    · simp only [if_pos h2] at h
      cases h
    · simp only [if_neg h2] at h ⊢
      simp only [okP, Bool.and_eq_true, decide_eq_true_eq] at h
      exact ⟨h.1.1.1, h.1.1.2, h.1.2⟩
theorem openF_len (key : UInt64) (x : List UInt8) : (openF key x).1.length ≤ x.length := by
  unfold openF
  split
  · simp
  · split
    · simp only [List.length_take]; omega
    · simp
theorem openF_e (key : UInt64) (x : List UInt8) : (openF key x).2 = 0 ∨ (openF key x).2 = 2 ∨ (openF key x).2 = 9 := by
  unfold openF
  split
  · exact .inr (.inl rfl)
  · split
    · exact .inl rfl
    · exact .inr (.inr rfl)
attribute [local irreducible] W PCalls pcall pcallI WL
/-- How far an end's numbers may go. -/
@[reducible] def OkE (s : LE) : Prop := s.wait.length ≤ 1000000 ∧ s.acked + s.wait.length ≤ 2000000000 ∧ s.got + s.held.length ≤ 2000000000 ∧ s.forged ≤ 2000000000
set_option maxRecDepth 100000 in
set_option maxHeartbeats 8000000 in
theorem in_bad (G : Globs) (e : Int) (s : LE) (x : List UInt8) (hx : x.length ≤ 4294900000) (hs : OkE s) (Hin : Heap) (hH : IsEnd e s Hin) (hbad : (openF s.key x).2 ≠ 0) :
    PCalls Try.prog G 19 [.ptr e 0, pl x] Hin (InR0 e (inL s x)) := by
  obtain ⟨w, m, rfl⟩ := hH
  obtain ⟨hs1, hs2, hs3, hs4⟩ := hs
  refine PCalls.nd fun nd => ?_
  have hM := end_nd nd
  have c1 := Open_c G s.key x hx
  have hE := openF_e s.key x
  unfold inL
  generalize openF s.key x = o at *
  obtain ⟨c, f⟩ := o
  simp only at *
  by_cases h9 : f = 9
  · subst h9
    rw [if_pos rfl]
    (refine PCalls_f Try.func19 rfl Try.ntmps19 Try.results19 (by simp) fun fin hfin => ?_; have hnm : True := trivial; simp only [ev, Nat.reduceAdd, Nat.reduceMul, Nat.reduceSub, Nat.reduceLeDiff, Nat.reduceEqDiff, ↓reduceIte, reduceCtorEq, Nat.reduceLT, Nat.reducePow, Nat.reduceDiv, Nat.reduceMod, Nat.reduceBEq, Int.reduceLT, Int.reduceLE, Int.reduceToNat, Int.reduceAdd, Int.reduceSub, Int.reduceNeg])
    repeat' (first
    | (with_reducible apply W_seq_k; intro nx hnx)
    | (with_reducible first | refine wr 6131 ?_ | refine wd (id := 9) 6131 1 (.op 0 true (.op 1 true (.op 2 true (.op 3 true (.op 4 true (.op 5 true (.op 6 true (.op 7 true (.op 8 true (.op 9 true (.op 10 true (.op 11 true (.op 12 true (.op 13 true (.op 14 true (.op 15 true (.op 16 true (.op 17 true (.op 18 true (.op 19 true (.op 20 true (.op 21 true (.op 22 true (.done)))))))))))))))))))))))) (by kernel_rfl) ?_ | refine wd (id := 11) 6131 1 (.op 0 true (.op 1 true (.op 2 true (.op 3 true (.op 4 true (.op 5 true (.op 6 true (.op 7 true (.done))))))))) (by kernel_rfl) ?_ | refine wd (id := 18) 6131 1 (.op 0 true (.op 1 true (.op 2 true (.op 3 true (.op 4 true (.op 5 true (.op 6 true (.op 7 true (.op 8 true (.op 9 true (.op 10 true (.op 11 true (.done))))))))))))) (by kernel_rfl) ?_ | refine wd (id := 19) 6131 1 (.op 0 true (.op 1 true (.op 2 true (.op 3 true (.op 4 true (.op 5 true (.op 6 true (.op 7 true (.op 8 true (.op 9 true (.op 10 true (.done)))))))))))) (by kernel_rfl) ?_ | refine wd (id := 20) 6131 1 (.op 0 true (.op 1 true (.op 2 true (.op 3 true (.op 4 true (.op 5 true (.op 6 true (.op 7 true (.op 8 true (.op 9 false (.done))))))))))) (by kernel_rfl) ?_)
    | ((with_reducible first | (apply WL_op; intro nx hnx) | refine Ev_out ?_ | refine wc ?_ | (apply popsD_op; intro nx hnx) | (refine popsD_alt ?_ ?_; intro nx hnx) | (refine pf hnm fun nm hnm => ?_; try simp only [fmb] at hnm) | (refine pm hnm fun nm hnm => ?_; try simp only [fmb] at hnm) | (refine pmaybe_k ?_; intro bn hbn)); try (simp (maxSteps := 2000000) (disch := omega) only [ev, ↓evp, PV.cells, PV.one, PV.mem?, Value.cells, Nat.reduceAdd, Nat.reduceMul, Nat.reduceSub, Nat.reduceLeDiff, Nat.reduceEqDiff, ↓reduceIte, reduceCtorEq, Nat.reduceLT, Nat.reducePow, Nat.reduceDiv, Nat.reduceMod, Nat.reduceBEq, Int.reduceLT, Int.reduceLE, Int.reduceToNat, Int.reduceAdd, Int.reduceSub, Int.reduceNeg, hnm, Try.tf0, Try.tf1, Try.tf2, Try.tf3, Try.tf4, Try.tf5, Try.tf6, Try.tf7, Try.tf22, Try.tf28, Try.tf33, Try.tf34, Try.tf35, Try.tf49, Try.tf63, Try.tf65, Try.tf68, Try.tf70, Try.tf73, Try.call25, Try.call32, Try.call36, Try.call37, Try.call38, hM]))
    | ((with_reducible first | apply W_block | apply W_scope | apply WL_nil | apply W_label | apply W_skip | apply W_exit | apply W_ret | apply popsD_done | exact popsD_stop) <;> try simp only [kks, Nat.reduceAdd, Nat.reduceMul, Nat.reduceSub, Nat.reduceLeDiff, Nat.reduceEqDiff, ↓reduceIte, reduceCtorEq, Nat.reduceLT, Nat.reducePow, Nat.reduceDiv, Nat.reduceMod, Nat.reduceBEq, Int.reduceLT, Int.reduceLE, Int.reduceToNat, Int.reduceAdd, Int.reduceSub, Int.reduceNeg])
    | (with_reducible apply pg <;> (intro hc; (try simp only [hcb, Nat.reduceAdd, Nat.reduceMul, Nat.reduceSub, Nat.reduceLeDiff, Nat.reduceEqDiff, ↓reduceIte, reduceCtorEq, Nat.reduceLT, Nat.reducePow, Nat.reduceDiv, Nat.reduceMod, Nat.reduceBEq, Int.reduceLT, Int.reduceLE, Int.reduceToNat, Int.reduceAdd, Int.reduceSub, Int.reduceNeg, ne_eq, forall_const] at hc); first | (exfalso; omega) | exact absurd trivial hc | skip))
    | (with_reducible apply hnx; clear hnx nx)
    | (with_reducible refine And.intro (by omega) ?_)
    | (with_reducible refine And.intro ?_ ?_)
    | (with_reducible refine pe (c1) ?_)
    | (clear hnx nx; with_reducible apply hnx; clear hnx nx)
    | (clear hnx nx; clear hnx nx; with_reducible apply hnx; clear hnx nx))
    all_goals first
      | (exfalso
         omega)
      | skip
    refine hfin _ _ (Fin_ret2 rfl rfl (H := endO e w m { s with forged := s.forged + 1 }) (Sub_refl nd) ⟨.inl ⟨rfl, ?_⟩, w, m, rfl⟩)
    simp only [fr_getD_cons, Nat.reduceEqDiff, Nat.reduceLT, ↓reduceIte]
  · rw [if_neg h9, if_pos hbad]
    (refine PCalls_f Try.func19 rfl Try.ntmps19 Try.results19 (by simp) fun fin hfin => ?_; have hnm : True := trivial; simp only [ev, Nat.reduceAdd, Nat.reduceMul, Nat.reduceSub, Nat.reduceLeDiff, Nat.reduceEqDiff, ↓reduceIte, reduceCtorEq, Nat.reduceLT, Nat.reducePow, Nat.reduceDiv, Nat.reduceMod, Nat.reduceBEq, Int.reduceLT, Int.reduceLE, Int.reduceToNat, Int.reduceAdd, Int.reduceSub, Int.reduceNeg])
    repeat' (first
    | (with_reducible apply W_seq_k; intro nx hnx)
    | (with_reducible first | refine wr 6131 ?_ | refine wd (id := 9) 6131 1 (.op 0 true (.op 1 true (.op 2 true (.op 3 true (.op 4 true (.op 5 true (.op 6 true (.op 7 true (.op 8 true (.op 9 true (.op 10 true (.op 11 true (.op 12 true (.op 13 true (.op 14 true (.op 15 true (.op 16 true (.op 17 true (.op 18 true (.op 19 true (.op 20 true (.op 21 true (.op 22 true (.done)))))))))))))))))))))))) (by kernel_rfl) ?_ | refine wd (id := 11) 6131 1 (.op 0 true (.op 1 true (.op 2 true (.op 3 true (.op 4 true (.op 5 true (.op 6 true (.op 7 true (.done))))))))) (by kernel_rfl) ?_ | refine wd (id := 18) 6131 1 (.op 0 true (.op 1 true (.op 2 true (.op 3 true (.op 4 true (.op 5 true (.op 6 true (.op 7 true (.op 8 true (.op 9 true (.op 10 true (.op 11 true (.done))))))))))))) (by kernel_rfl) ?_ | refine wd (id := 19) 6131 1 (.op 0 true (.op 1 true (.op 2 true (.op 3 true (.op 4 true (.op 5 true (.op 6 true (.op 7 true (.op 8 true (.op 9 true (.op 10 true (.done)))))))))))) (by kernel_rfl) ?_ | refine wd (id := 20) 6131 1 (.op 0 true (.op 1 true (.op 2 true (.op 3 true (.op 4 true (.op 5 true (.op 6 true (.op 7 true (.op 8 true (.op 9 false (.done))))))))))) (by kernel_rfl) ?_)
    | ((with_reducible first | (apply WL_op; intro nx hnx) | refine Ev_out ?_ | refine wc ?_ | (apply popsD_op; intro nx hnx) | (refine popsD_alt ?_ ?_; intro nx hnx) | (refine pf hnm fun nm hnm => ?_; try simp only [fmb] at hnm) | (refine pm hnm fun nm hnm => ?_; try simp only [fmb] at hnm) | (refine pmaybe_k ?_; intro bn hbn)); try (simp (maxSteps := 2000000) (disch := omega) only [ev, ↓evp, PV.cells, PV.one, PV.mem?, Value.cells, Nat.reduceAdd, Nat.reduceMul, Nat.reduceSub, Nat.reduceLeDiff, Nat.reduceEqDiff, ↓reduceIte, reduceCtorEq, Nat.reduceLT, Nat.reducePow, Nat.reduceDiv, Nat.reduceMod, Nat.reduceBEq, Int.reduceLT, Int.reduceLE, Int.reduceToNat, Int.reduceAdd, Int.reduceSub, Int.reduceNeg, hnm, Try.tf0, Try.tf1, Try.tf2, Try.tf3, Try.tf4, Try.tf5, Try.tf6, Try.tf7, Try.tf22, Try.tf28, Try.tf33, Try.tf34, Try.tf35, Try.tf49, Try.tf63, Try.tf65, Try.tf68, Try.tf70, Try.tf73, Try.call25, Try.call32, Try.call36, Try.call37, Try.call38, hM]))
    | ((with_reducible first | apply W_block | apply W_scope | apply WL_nil | apply W_label | apply W_skip | apply W_exit | apply W_ret | apply popsD_done | exact popsD_stop) <;> try simp only [kks, Nat.reduceAdd, Nat.reduceMul, Nat.reduceSub, Nat.reduceLeDiff, Nat.reduceEqDiff, ↓reduceIte, reduceCtorEq, Nat.reduceLT, Nat.reducePow, Nat.reduceDiv, Nat.reduceMod, Nat.reduceBEq, Int.reduceLT, Int.reduceLE, Int.reduceToNat, Int.reduceAdd, Int.reduceSub, Int.reduceNeg])
    | (with_reducible apply pg <;> (intro hc; (try simp only [hcb, Nat.reduceAdd, Nat.reduceMul, Nat.reduceSub, Nat.reduceLeDiff, Nat.reduceEqDiff, ↓reduceIte, reduceCtorEq, Nat.reduceLT, Nat.reducePow, Nat.reduceDiv, Nat.reduceMod, Nat.reduceBEq, Int.reduceLT, Int.reduceLE, Int.reduceToNat, Int.reduceAdd, Int.reduceSub, Int.reduceNeg, ne_eq, forall_const] at hc); first | (exfalso; omega) | exact absurd trivial hc | skip))
    | (with_reducible apply hnx; clear hnx nx)
    | (with_reducible refine And.intro (by omega) ?_)
    | (with_reducible refine And.intro ?_ ?_)
    | (with_reducible refine pe (c1) ?_)
    | (clear hnx nx; with_reducible apply hnx; clear hnx nx)
    | (clear hnx nx; clear hnx nx; with_reducible apply hnx; clear hnx nx))
    all_goals first
      | (exfalso
         omega)
      | skip
    refine hfin _ _ (Fin_ret2 rfl rfl (H := endO e w m s) (Sub_refl nd) ⟨.inl ⟨rfl, ?_⟩, w, m, rfl⟩)
    simp only [fr_getD_cons, Nat.reduceEqDiff, Nat.reduceLT, ↓reduceIte]
set_option maxRecDepth 100000 in
set_option maxHeartbeats 8000000 in
theorem in_none (G : Globs) (e : Int) (s : LE) (x : List UInt8) (hx : x.length ≤ 4294900000) (hs : OkE s) (Hin : Heap) (hH : IsEnd e s Hin) (ho : (openF s.key x).2 = 0) (hr : (readF (openF s.key x).1).2 = false) :
    PCalls Try.prog G 19 [.ptr e 0, pl x] Hin (InR0 e (inL s x)) := by
  obtain ⟨w, m, rfl⟩ := hH
  obtain ⟨hs1, hs2, hs3, hs4⟩ := hs
  refine PCalls.nd fun nd => ?_
  have hM := end_nd nd
  have c1 := Open_c G s.key x hx
  have c2 := read_c2 G (openF s.key x).1 (Nat.le_trans (openF_len _ _) hx)
  have hX : inL s x = (([], 2), s) := by
    unfold inL
    rw [if_neg (by omega), if_neg (by omega), if_pos hr]
  rw [hX]
  clear hX
  generalize openF s.key x = o at *
  obtain ⟨c, f⟩ := o
  simp only at *
  subst ho
  (refine PCalls_f Try.func19 rfl Try.ntmps19 Try.results19 (by simp) fun fin hfin => ?_; have hnm : True := trivial; simp only [ev, Nat.reduceAdd, Nat.reduceMul, Nat.reduceSub, Nat.reduceLeDiff, Nat.reduceEqDiff, ↓reduceIte, reduceCtorEq, Nat.reduceLT, Nat.reducePow, Nat.reduceDiv, Nat.reduceMod, Nat.reduceBEq, Int.reduceLT, Int.reduceLE, Int.reduceToNat, Int.reduceAdd, Int.reduceSub, Int.reduceNeg])
  repeat' (first
    | (with_reducible apply W_seq_k; intro nx hnx)
    | (with_reducible first | refine wr 6131 ?_ | refine wd (id := 9) 6131 1 (.op 0 true (.op 1 true (.op 2 true (.op 3 true (.op 4 true (.op 5 true (.op 6 true (.op 7 true (.op 8 true (.op 9 true (.op 10 true (.op 11 true (.op 12 true (.op 13 true (.op 14 true (.op 15 true (.op 16 true (.op 17 true (.op 18 true (.op 19 true (.op 20 true (.op 21 true (.op 22 true (.done)))))))))))))))))))))))) (by kernel_rfl) ?_ | refine wd (id := 11) 6131 1 (.op 0 true (.op 1 true (.op 2 true (.op 3 true (.op 4 true (.op 5 true (.op 6 true (.op 7 true (.done))))))))) (by kernel_rfl) ?_ | refine wd (id := 18) 6131 1 (.op 0 true (.op 1 true (.op 2 true (.op 3 true (.op 4 true (.op 5 true (.op 6 true (.op 7 true (.op 8 true (.op 9 true (.op 10 true (.op 11 true (.done))))))))))))) (by kernel_rfl) ?_ | refine wd (id := 19) 6131 1 (.op 0 true (.op 1 true (.op 2 true (.op 3 true (.op 4 true (.op 5 true (.op 6 true (.op 7 true (.op 8 true (.op 9 true (.op 10 true (.done)))))))))))) (by kernel_rfl) ?_ | refine wd (id := 20) 6131 1 (.op 0 true (.op 1 true (.op 2 true (.op 3 true (.op 4 true (.op 5 true (.op 6 true (.op 7 true (.op 8 true (.op 9 false (.done))))))))))) (by kernel_rfl) ?_)
    | ((with_reducible first | (apply WL_op; intro nx hnx) | refine Ev_out ?_ | refine wc ?_ | (apply popsD_op; intro nx hnx) | (refine popsD_alt ?_ ?_; intro nx hnx) | (refine pf hnm fun nm hnm => ?_; try simp only [fmb] at hnm) | (refine pm hnm fun nm hnm => ?_; try simp only [fmb] at hnm) | (refine pmaybe_k ?_; intro bn hbn)); try (simp (maxSteps := 2000000) (disch := omega) only [ev, ↓evp, PV.cells, PV.one, PV.mem?, Value.cells, Nat.reduceAdd, Nat.reduceMul, Nat.reduceSub, Nat.reduceLeDiff, Nat.reduceEqDiff, ↓reduceIte, reduceCtorEq, Nat.reduceLT, Nat.reducePow, Nat.reduceDiv, Nat.reduceMod, Nat.reduceBEq, Int.reduceLT, Int.reduceLE, Int.reduceToNat, Int.reduceAdd, Int.reduceSub, Int.reduceNeg, hnm, Try.tf0, Try.tf1, Try.tf2, Try.tf3, Try.tf4, Try.tf5, Try.tf6, Try.tf7, Try.tf22, Try.tf28, Try.tf33, Try.tf34, Try.tf35, Try.tf49, Try.tf63, Try.tf65, Try.tf68, Try.tf70, Try.tf73, Try.call25, Try.call32, Try.call36, Try.call37, Try.call38, hM]))
    | ((with_reducible first | apply W_block | apply W_scope | apply WL_nil | apply W_label | apply W_skip | apply W_exit | apply W_ret | apply popsD_done | exact popsD_stop) <;> try simp only [kks, Nat.reduceAdd, Nat.reduceMul, Nat.reduceSub, Nat.reduceLeDiff, Nat.reduceEqDiff, ↓reduceIte, reduceCtorEq, Nat.reduceLT, Nat.reducePow, Nat.reduceDiv, Nat.reduceMod, Nat.reduceBEq, Int.reduceLT, Int.reduceLE, Int.reduceToNat, Int.reduceAdd, Int.reduceSub, Int.reduceNeg])
    | (with_reducible apply pg <;> (intro hc; (try simp only [hcb, Nat.reduceAdd, Nat.reduceMul, Nat.reduceSub, Nat.reduceLeDiff, Nat.reduceEqDiff, ↓reduceIte, reduceCtorEq, Nat.reduceLT, Nat.reducePow, Nat.reduceDiv, Nat.reduceMod, Nat.reduceBEq, Int.reduceLT, Int.reduceLE, Int.reduceToNat, Int.reduceAdd, Int.reduceSub, Int.reduceNeg, ne_eq, forall_const] at hc); first | (exfalso; omega) | exact absurd trivial hc | skip))
    | (with_reducible apply hnx; clear hnx nx)
    | (with_reducible refine And.intro (by omega) ?_)
    | (with_reducible refine And.intro ?_ ?_)
    | (with_reducible refine pe (c1) ?_)
    | (clear hnx nx; with_reducible apply hnx; clear hnx nx)
    | (clear hnx nx; clear hnx nx; with_reducible apply hnx; clear hnx nx))
  all_goals first
    | (exfalso
       omega)
    | skip
  refine pcall_k c2 ?_
  rintro _ _ ⟨rfl, ⟨h1, a, b, c, hc, rfl⟩ | ⟨h1, rfl⟩⟩ -
  · have hone : c.one = true ∧ c.cells = [c] := by
      rcases hc with rfl | ⟨l, rfl⟩
      · exact ⟨rfl, rfl⟩
      · exact ⟨rfl, rfl⟩
    clear hc
    refine Ev_in ?_
    repeat' (first
    | (with_reducible apply W_seq_k; intro nx hnx)
    | (with_reducible first | refine wr 6131 ?_ | refine wd (id := 9) 6131 1 (.op 0 true (.op 1 true (.op 2 true (.op 3 true (.op 4 true (.op 5 true (.op 6 true (.op 7 true (.op 8 true (.op 9 true (.op 10 true (.op 11 true (.op 12 true (.op 13 true (.op 14 true (.op 15 true (.op 16 true (.op 17 true (.op 18 true (.op 19 true (.op 20 true (.op 21 true (.op 22 true (.done)))))))))))))))))))))))) (by kernel_rfl) ?_ | refine wd (id := 11) 6131 1 (.op 0 true (.op 1 true (.op 2 true (.op 3 true (.op 4 true (.op 5 true (.op 6 true (.op 7 true (.done))))))))) (by kernel_rfl) ?_ | refine wd (id := 18) 6131 1 (.op 0 true (.op 1 true (.op 2 true (.op 3 true (.op 4 true (.op 5 true (.op 6 true (.op 7 true (.op 8 true (.op 9 true (.op 10 true (.op 11 true (.done))))))))))))) (by kernel_rfl) ?_ | refine wd (id := 19) 6131 1 (.op 0 true (.op 1 true (.op 2 true (.op 3 true (.op 4 true (.op 5 true (.op 6 true (.op 7 true (.op 8 true (.op 9 true (.op 10 true (.done)))))))))))) (by kernel_rfl) ?_ | refine wd (id := 20) 6131 1 (.op 0 true (.op 1 true (.op 2 true (.op 3 true (.op 4 true (.op 5 true (.op 6 true (.op 7 true (.op 8 true (.op 9 false (.done))))))))))) (by kernel_rfl) ?_)
    | ((with_reducible first | (apply WL_op; intro nx hnx) | refine Ev_out ?_ | refine wc ?_ | (apply popsD_op; intro nx hnx) | (refine popsD_alt ?_ ?_; intro nx hnx) | (refine pf hnm fun nm hnm => ?_; try simp only [fmb] at hnm) | (refine pm hnm fun nm hnm => ?_; try simp only [fmb] at hnm) | (refine pmaybe_k ?_; intro bn hbn)); try (simp (maxSteps := 2000000) (disch := omega) only [ev, ↓evp, PV.cells, PV.one, PV.mem?, Value.cells, Nat.reduceAdd, Nat.reduceMul, Nat.reduceSub, Nat.reduceLeDiff, Nat.reduceEqDiff, ↓reduceIte, reduceCtorEq, Nat.reduceLT, Nat.reducePow, Nat.reduceDiv, Nat.reduceMod, Nat.reduceBEq, Int.reduceLT, Int.reduceLE, Int.reduceToNat, Int.reduceAdd, Int.reduceSub, Int.reduceNeg, hnm, Try.tf0, Try.tf1, Try.tf2, Try.tf3, Try.tf4, Try.tf5, Try.tf6, Try.tf7, Try.tf22, Try.tf28, Try.tf33, Try.tf34, Try.tf35, Try.tf49, Try.tf63, Try.tf65, Try.tf68, Try.tf70, Try.tf73, Try.call25, Try.call32, Try.call36, Try.call37, Try.call38, hM, hone]))
    | ((with_reducible first | apply W_block | apply W_scope | apply WL_nil | apply W_label | apply W_skip | apply W_exit | apply W_ret | apply popsD_done | exact popsD_stop) <;> try simp only [kks, Nat.reduceAdd, Nat.reduceMul, Nat.reduceSub, Nat.reduceLeDiff, Nat.reduceEqDiff, ↓reduceIte, reduceCtorEq, Nat.reduceLT, Nat.reducePow, Nat.reduceDiv, Nat.reduceMod, Nat.reduceBEq, Int.reduceLT, Int.reduceLE, Int.reduceToNat, Int.reduceAdd, Int.reduceSub, Int.reduceNeg])
    | (with_reducible apply pg <;> (intro hc; (try simp only [hcb, Nat.reduceAdd, Nat.reduceMul, Nat.reduceSub, Nat.reduceLeDiff, Nat.reduceEqDiff, ↓reduceIte, reduceCtorEq, Nat.reduceLT, Nat.reducePow, Nat.reduceDiv, Nat.reduceMod, Nat.reduceBEq, Int.reduceLT, Int.reduceLE, Int.reduceToNat, Int.reduceAdd, Int.reduceSub, Int.reduceNeg, ne_eq, forall_const] at hc); first | (exfalso; omega) | exact absurd trivial hc | skip))
    | (with_reducible apply hnx; clear hnx nx)
    | (with_reducible refine And.intro (by omega) ?_)
    | (with_reducible refine And.intro ?_ ?_)
    | (clear hnx nx; with_reducible apply hnx; clear hnx nx)
    | (clear hnx nx; clear hnx nx; with_reducible apply hnx; clear hnx nx))
    · exact hone.1
    · refine hfin _ _ (Fin_ret2 rfl rfl (H := endO e w m s) ⟨fun x hx => .tail _ hx, nd⟩ ⟨.inl ⟨rfl, ?_⟩, w, m, rfl⟩)
      simp only [fr_getD_cons, Nat.reduceEqDiff, Nat.reduceLT, ↓reduceIte]
  · rw [hr] at h1
    cases h1
set_option maxRecDepth 100000 in
set_option maxHeartbeats 8000000 in
theorem in_take (G : Globs) (e : Int) (s : LE) (x : List UInt8) (hx : x.length ≤ 4294900000) (hs : OkE s) (Hin : Heap) (hH : IsEnd e s Hin) (ho : (openF s.key x).2 = 0) (hr : (readF (openF s.key x).1).2 = true) :
    PCalls Try.prog G 19 [.ptr e 0, pl x] Hin (InR0 e (inL s x)) := by
  obtain ⟨w, m, rfl⟩ := hH
  obtain ⟨hs1, hs2, hs3, hs4⟩ := hs
  refine PCalls.nd fun nd => ?_
  have hM := end_nd nd
  have c1 := Open_c G s.key x hx
  have c2 := read_c2 G (openF s.key x).1 (Nat.le_trans (openF_len _ _) hx)
  have hX : inL s x = (((takeL s (readF (openF s.key x).1).1).1, 0), (takeL s (readF (openF s.key x).1).1).2) := by
    unfold inL
    rw [if_neg (by omega), if_neg (by omega), if_neg (by rw [hr]; simp)]
  have hok := readF_ok hr
  rw [hX]
  clear hX
  generalize openF s.key x = o at *
  obtain ⟨c, f⟩ := o
  simp only at *
  subst ho
  generalize readF c = r at *
  obtain ⟨⟨q, a, b⟩, k⟩ := r
  simp only at *
  subst hr
  obtain ⟨h0, h1, hb⟩ := hok
  obtain ⟨q, rfl⟩ := Int.eq_ofNat_of_zero_le h0
  obtain ⟨a, rfl⟩ := Int.eq_ofNat_of_zero_le h1
  clear h0 h1
  have c2 : PCalls Try.prog G 36 [pl c] [] (fun res H => res = .tuple [.agg [pint .i64 q, pint .i64 a, pl b], pbool true] ∧ H = []) := by
    refine c2.mono ?_
    rintro _ _ ⟨rfl, ⟨h1, _⟩ | ⟨h1, rfl⟩⟩
    · cases h1
    · exact ⟨rfl, rfl⟩
  have c3 := clone_c G b (by omega)
  unfold takeL
  simp only [Int.toNat_natCast]
  by_cases hbad : s.acked + s.wait.length < a ∨ s.got + 16 < q
  · rw [if_pos hbad]
    (refine PCalls_f Try.func19 rfl Try.ntmps19 Try.results19 (by simp) fun fin hfin => ?_; have hnm : True := trivial; simp only [ev, Nat.reduceAdd, Nat.reduceMul, Nat.reduceSub, Nat.reduceLeDiff, Nat.reduceEqDiff, ↓reduceIte, reduceCtorEq, Nat.reduceLT, Nat.reducePow, Nat.reduceDiv, Nat.reduceMod, Nat.reduceBEq, Int.reduceLT, Int.reduceLE, Int.reduceToNat, Int.reduceAdd, Int.reduceSub, Int.reduceNeg])
    repeat' (first
    | (with_reducible apply W_seq_k; intro nx hnx)
    | (with_reducible first | refine wr 6131 ?_ | refine wd (id := 9) 6131 1 (.op 0 true (.op 1 true (.op 2 true (.op 3 true (.op 4 true (.op 5 true (.op 6 true (.op 7 true (.op 8 true (.op 9 true (.op 10 true (.op 11 true (.op 12 true (.op 13 true (.op 14 true (.op 15 true (.op 16 true (.op 17 true (.op 18 true (.op 19 true (.op 20 true (.op 21 true (.op 22 true (.done)))))))))))))))))))))))) (by kernel_rfl) ?_ | refine wd (id := 11) 6131 1 (.op 0 true (.op 1 true (.op 2 true (.op 3 true (.op 4 true (.op 5 true (.op 6 true (.op 7 true (.done))))))))) (by kernel_rfl) ?_ | refine wd (id := 18) 6131 1 (.op 0 true (.op 1 true (.op 2 true (.op 3 true (.op 4 true (.op 5 true (.op 6 true (.op 7 true (.op 8 true (.op 9 true (.op 10 true (.op 11 true (.done))))))))))))) (by kernel_rfl) ?_ | refine wd (id := 19) 6131 1 (.op 0 true (.op 1 true (.op 2 true (.op 3 true (.op 4 true (.op 5 true (.op 6 true (.op 7 true (.op 8 true (.op 9 true (.op 10 true (.done)))))))))))) (by kernel_rfl) ?_ | refine wd (id := 20) 6131 1 (.op 0 true (.op 1 true (.op 2 true (.op 3 true (.op 4 true (.op 5 true (.op 6 true (.op 7 true (.op 8 true (.op 9 false (.done))))))))))) (by kernel_rfl) ?_)
    | ((with_reducible first | (apply WL_op; intro nx hnx) | refine Ev_out ?_ | refine wc ?_ | (apply popsD_op; intro nx hnx) | (refine popsD_alt ?_ ?_; intro nx hnx) | (refine pf hnm fun nm hnm => ?_; try simp only [fmb] at hnm) | (refine pm hnm fun nm hnm => ?_; try simp only [fmb] at hnm) | (refine pmaybe_k ?_; intro bn hbn)); try (simp (maxSteps := 2000000) (disch := omega) only [ev, ↓evp, PV.cells, PV.one, PV.mem?, Value.cells, Nat.reduceAdd, Nat.reduceMul, Nat.reduceSub, Nat.reduceLeDiff, Nat.reduceEqDiff, ↓reduceIte, reduceCtorEq, Nat.reduceLT, Nat.reducePow, Nat.reduceDiv, Nat.reduceMod, Nat.reduceBEq, Int.reduceLT, Int.reduceLE, Int.reduceToNat, Int.reduceAdd, Int.reduceSub, Int.reduceNeg, hnm, Try.tf0, Try.tf1, Try.tf2, Try.tf3, Try.tf4, Try.tf5, Try.tf6, Try.tf7, Try.tf22, Try.tf28, Try.tf33, Try.tf34, Try.tf35, Try.tf49, Try.tf63, Try.tf65, Try.tf68, Try.tf70, Try.tf73, Try.call25, Try.call32, Try.call36, Try.call37, Try.call38, hM]))
    | ((with_reducible first | apply W_block | apply W_scope | apply WL_nil | apply W_label | apply W_skip | apply W_exit | apply W_ret | apply popsD_done | exact popsD_stop) <;> try simp only [kks, Nat.reduceAdd, Nat.reduceMul, Nat.reduceSub, Nat.reduceLeDiff, Nat.reduceEqDiff, ↓reduceIte, reduceCtorEq, Nat.reduceLT, Nat.reducePow, Nat.reduceDiv, Nat.reduceMod, Nat.reduceBEq, Int.reduceLT, Int.reduceLE, Int.reduceToNat, Int.reduceAdd, Int.reduceSub, Int.reduceNeg])
    | (with_reducible apply pg <;> (intro hc; (try simp only [hcb, Nat.reduceAdd, Nat.reduceMul, Nat.reduceSub, Nat.reduceLeDiff, Nat.reduceEqDiff, ↓reduceIte, reduceCtorEq, Nat.reduceLT, Nat.reducePow, Nat.reduceDiv, Nat.reduceMod, Nat.reduceBEq, Int.reduceLT, Int.reduceLE, Int.reduceToNat, Int.reduceAdd, Int.reduceSub, Int.reduceNeg, ne_eq, forall_const] at hc); first | (exfalso; omega) | exact absurd trivial hc | skip))
    | (with_reducible apply hnx; clear hnx nx)
    | (with_reducible refine And.intro (by omega) ?_)
    | (with_reducible refine And.intro ?_ ?_)
    | (with_reducible refine pe (c1) ?_)
    | (with_reducible refine pe (c2) ?_)
    | (clear hnx nx; with_reducible apply hnx; clear hnx nx)
    | (clear hnx nx; clear hnx nx; with_reducible apply hnx; clear hnx nx))
    all_goals first
      | (exfalso
         omega)
      | skip
    all_goals
      refine hfin _ _ (Fin_ret2 rfl rfl (H := endO e w m s) ⟨fun x hx => .tail _ hx, nd⟩ ⟨.inl ⟨rfl, ?_⟩, w, m, rfl⟩)
      simp only [fr_getD_cons, Nat.reduceEqDiff, Nat.reduceLT, ↓reduceIte]
  rw [if_neg hbad]
  by_cases ha : s.acked < a
  · have hA : ackL s a = { s with wait := s.wait.drop (a - s.acked), acked := a } := by rw [ackL, if_pos ha]
    have hwl : (s.wait.drop (a - s.acked)).length ≤ s.wait.length := by rw [List.length_drop]; omega
    have hsub : (a : Int) - s.acked = ((a - s.acked : Nat) : Int) := by omega
    have hD := delete_c G w (s.wait.map pl) s.wait.length (a - s.acked) (by simp) (by omega) (by omega)
    rw [← List.map_drop] at hD
    have hdl : s.wait.length - (a - s.acked) = (s.wait.drop (a - s.acked)).length := by rw [List.length_drop]
    rw [hdl] at hD
    clear hdl
    generalize s.wait.drop (a - s.acked) = wt at *
    rw [hA]
    by_cases hq0 : q = 0
    · subst hq0
      rw [if_pos rfl]
      (refine PCalls_f Try.func19 rfl Try.ntmps19 Try.results19 (by simp) fun fin hfin => ?_; have hnm : True := trivial; simp only [ev, Nat.reduceAdd, Nat.reduceMul, Nat.reduceSub, Nat.reduceLeDiff, Nat.reduceEqDiff, ↓reduceIte, reduceCtorEq, Nat.reduceLT, Nat.reducePow, Nat.reduceDiv, Nat.reduceMod, Nat.reduceBEq, Int.reduceLT, Int.reduceLE, Int.reduceToNat, Int.reduceAdd, Int.reduceSub, Int.reduceNeg])
      repeat' (first
    | (with_reducible apply W_seq_k; intro nx hnx)
    | (with_reducible first | refine wr 6131 ?_ | refine wd (id := 9) 6131 1 (.op 0 true (.op 1 true (.op 2 true (.op 3 true (.op 4 true (.op 5 true (.op 6 true (.op 7 true (.op 8 true (.op 9 true (.op 10 true (.op 11 true (.op 12 true (.op 13 true (.op 14 true (.op 15 true (.op 16 true (.op 17 true (.op 18 true (.op 19 true (.op 20 true (.op 21 true (.op 22 true (.done)))))))))))))))))))))))) (by kernel_rfl) ?_ | refine wd (id := 11) 6131 1 (.op 0 true (.op 1 true (.op 2 true (.op 3 true (.op 4 true (.op 5 true (.op 6 true (.op 7 true (.done))))))))) (by kernel_rfl) ?_ | refine wd (id := 18) 6131 1 (.op 0 true (.op 1 true (.op 2 true (.op 3 true (.op 4 true (.op 5 true (.op 6 true (.op 7 true (.op 8 true (.op 9 true (.op 10 true (.op 11 true (.done))))))))))))) (by kernel_rfl) ?_ | refine wd (id := 19) 6131 1 (.op 0 true (.op 1 true (.op 2 true (.op 3 true (.op 4 true (.op 5 true (.op 6 true (.op 7 true (.op 8 true (.op 9 true (.op 10 true (.done)))))))))))) (by kernel_rfl) ?_ | refine wd (id := 20) 6131 1 (.op 0 true (.op 1 true (.op 2 true (.op 3 true (.op 4 true (.op 5 true (.op 6 true (.op 7 true (.op 8 true (.op 9 false (.done))))))))))) (by kernel_rfl) ?_)
    | ((with_reducible first | (apply WL_op; intro nx hnx) | refine Ev_out ?_ | refine wc ?_ | (apply popsD_op; intro nx hnx) | (refine popsD_alt ?_ ?_; intro nx hnx) | (refine pf hnm fun nm hnm => ?_; try simp only [fmb] at hnm) | (refine pm hnm fun nm hnm => ?_; try simp only [fmb] at hnm) | (refine pmaybe_k ?_; intro bn hbn)); try (simp (maxSteps := 2000000) (disch := omega) only [ev, ↓evp, PV.cells, PV.one, PV.mem?, Value.cells, Nat.reduceAdd, Nat.reduceMul, Nat.reduceSub, Nat.reduceLeDiff, Nat.reduceEqDiff, ↓reduceIte, reduceCtorEq, Nat.reduceLT, Nat.reducePow, Nat.reduceDiv, Nat.reduceMod, Nat.reduceBEq, Int.reduceLT, Int.reduceLE, Int.reduceToNat, Int.reduceAdd, Int.reduceSub, Int.reduceNeg, hnm, Try.tf0, Try.tf1, Try.tf2, Try.tf3, Try.tf4, Try.tf5, Try.tf6, Try.tf7, Try.tf22, Try.tf28, Try.tf33, Try.tf34, Try.tf35, Try.tf49, Try.tf63, Try.tf65, Try.tf68, Try.tf70, Try.tf73, Try.call25, Try.call32, Try.call36, Try.call37, Try.call38, hM, hsub]))
    | ((with_reducible first | apply W_block | apply W_scope | apply WL_nil | apply W_label | apply W_skip | apply W_exit | apply W_ret | apply popsD_done | exact popsD_stop) <;> try simp only [kks, Nat.reduceAdd, Nat.reduceMul, Nat.reduceSub, Nat.reduceLeDiff, Nat.reduceEqDiff, ↓reduceIte, reduceCtorEq, Nat.reduceLT, Nat.reducePow, Nat.reduceDiv, Nat.reduceMod, Nat.reduceBEq, Int.reduceLT, Int.reduceLE, Int.reduceToNat, Int.reduceAdd, Int.reduceSub, Int.reduceNeg])
    | (with_reducible apply pg <;> (intro hc; (try simp only [hcb, Nat.reduceAdd, Nat.reduceMul, Nat.reduceSub, Nat.reduceLeDiff, Nat.reduceEqDiff, ↓reduceIte, reduceCtorEq, Nat.reduceLT, Nat.reducePow, Nat.reduceDiv, Nat.reduceMod, Nat.reduceBEq, Int.reduceLT, Int.reduceLE, Int.reduceToNat, Int.reduceAdd, Int.reduceSub, Int.reduceNeg, ne_eq, forall_const] at hc); first | (exfalso; omega) | exact absurd trivial hc | skip))
    | (with_reducible apply hnx; clear hnx nx)
    | (with_reducible refine And.intro (by omega) ?_)
    | (with_reducible refine And.intro ?_ ?_)
    | (with_reducible refine pe (c1) ?_)
    | (with_reducible refine pe (c2) ?_)
    | ((refine pcall_mid [_, _] [_] [_] rfl hD ?_; rintro _ _ ⟨rfl, rfl⟩; refine Ev_in ?_))
    | (clear hnx nx; with_reducible apply hnx; clear hnx nx)
    | (clear hnx nx; clear hnx nx; with_reducible apply hnx; clear hnx nx))
      all_goals first
        | (exfalso
           omega)
        | skip
      refine hfin _ _ (Fin_ret2 rfl rfl (H := endO e w m { s with wait := wt, acked := a }) ⟨fun x hx => .tail _ hx, nd⟩ ⟨.inl ⟨rfl, ?_⟩, w, m, rfl⟩)
      simp only [fr_getD_cons, Nat.reduceEqDiff, Nat.reduceLT, ↓reduceIte]
    rw [if_neg hq0]
    cases hp : pull q s.held with
    | none =>
      have hm := pull_none 0 hp
      by_cases hq : s.got < q
      · have hX : holdL { s with wait := wt, acked := a } q b = {  s with wait := wt, acked := a , owing := true, held := s.held ++ [(q, b)] } := by
          rw [holdL, if_pos ⟨hq, hp⟩]
        rw [hX]
        clear hX
        have hE : entsP s.held ++ [.ent (pint .i64 q) (pl b)] = entsP (s.held ++ [(q, b)]) := by simp
        (refine PCalls_f Try.func19 rfl Try.ntmps19 Try.results19 (by simp) fun fin hfin => ?_; have hnm : True := trivial; simp only [ev, Nat.reduceAdd, Nat.reduceMul, Nat.reduceSub, Nat.reduceLeDiff, Nat.reduceEqDiff, ↓reduceIte, reduceCtorEq, Nat.reduceLT, Nat.reducePow, Nat.reduceDiv, Nat.reduceMod, Nat.reduceBEq, Int.reduceLT, Int.reduceLE, Int.reduceToNat, Int.reduceAdd, Int.reduceSub, Int.reduceNeg])
        repeat' (first
    | (with_reducible apply W_seq_k; intro nx hnx)
    | (with_reducible first | refine wr 6131 ?_ | refine wd (id := 9) 6131 1 (.op 0 true (.op 1 true (.op 2 true (.op 3 true (.op 4 true (.op 5 true (.op 6 true (.op 7 true (.op 8 true (.op 9 true (.op 10 true (.op 11 true (.op 12 true (.op 13 true (.op 14 true (.op 15 true (.op 16 true (.op 17 true (.op 18 true (.op 19 true (.op 20 true (.op 21 true (.op 22 true (.done)))))))))))))))))))))))) (by kernel_rfl) ?_ | refine wd (id := 11) 6131 1 (.op 0 true (.op 1 true (.op 2 true (.op 3 true (.op 4 true (.op 5 true (.op 6 true (.op 7 true (.done))))))))) (by kernel_rfl) ?_ | refine wd (id := 18) 6131 1 (.op 0 true (.op 1 true (.op 2 true (.op 3 true (.op 4 true (.op 5 true (.op 6 true (.op 7 true (.op 8 true (.op 9 true (.op 10 true (.op 11 true (.done))))))))))))) (by kernel_rfl) ?_ | refine wd (id := 19) 6131 1 (.op 0 true (.op 1 true (.op 2 true (.op 3 true (.op 4 true (.op 5 true (.op 6 true (.op 7 true (.op 8 true (.op 9 true (.op 10 true (.done)))))))))))) (by kernel_rfl) ?_ | refine wd (id := 20) 6131 1 (.op 0 true (.op 1 true (.op 2 true (.op 3 true (.op 4 true (.op 5 true (.op 6 true (.op 7 true (.op 8 true (.op 9 false (.done))))))))))) (by kernel_rfl) ?_)
    | ((with_reducible first | (apply WL_op; intro nx hnx) | refine Ev_out ?_ | refine wc ?_ | (apply popsD_op; intro nx hnx) | (refine popsD_alt ?_ ?_; intro nx hnx) | (refine pf hnm fun nm hnm => ?_; try simp only [fmb] at hnm) | (refine pm hnm fun nm hnm => ?_; try simp only [fmb] at hnm) | (refine pmaybe_k ?_; intro bn hbn)); try (simp (maxSteps := 2000000) (disch := omega) only [ev, ↓evp, PV.cells, PV.one, PV.mem?, Value.cells, Nat.reduceAdd, Nat.reduceMul, Nat.reduceSub, Nat.reduceLeDiff, Nat.reduceEqDiff, ↓reduceIte, reduceCtorEq, Nat.reduceLT, Nat.reducePow, Nat.reduceDiv, Nat.reduceMod, Nat.reduceBEq, Int.reduceLT, Int.reduceLE, Int.reduceToNat, Int.reduceAdd, Int.reduceSub, Int.reduceNeg, hnm, Try.tf0, Try.tf1, Try.tf2, Try.tf3, Try.tf4, Try.tf5, Try.tf6, Try.tf7, Try.tf22, Try.tf28, Try.tf33, Try.tf34, Try.tf35, Try.tf49, Try.tf63, Try.tf65, Try.tf68, Try.tf70, Try.tf73, Try.call25, Try.call32, Try.call36, Try.call37, Try.call38, hM, hm, hE, hsub]))
    | ((with_reducible first | apply W_block | apply W_scope | apply WL_nil | apply W_label | apply W_skip | apply W_exit | apply W_ret | apply popsD_done | exact popsD_stop) <;> try simp only [kks, Nat.reduceAdd, Nat.reduceMul, Nat.reduceSub, Nat.reduceLeDiff, Nat.reduceEqDiff, ↓reduceIte, reduceCtorEq, Nat.reduceLT, Nat.reducePow, Nat.reduceDiv, Nat.reduceMod, Nat.reduceBEq, Int.reduceLT, Int.reduceLE, Int.reduceToNat, Int.reduceAdd, Int.reduceSub, Int.reduceNeg])
    | (with_reducible apply pg <;> (intro hc; (try simp only [hcb, Nat.reduceAdd, Nat.reduceMul, Nat.reduceSub, Nat.reduceLeDiff, Nat.reduceEqDiff, ↓reduceIte, reduceCtorEq, Nat.reduceLT, Nat.reducePow, Nat.reduceDiv, Nat.reduceMod, Nat.reduceBEq, Int.reduceLT, Int.reduceLE, Int.reduceToNat, Int.reduceAdd, Int.reduceSub, Int.reduceNeg, ne_eq, forall_const] at hc); first | (exfalso; omega) | exact absurd trivial hc | skip))
    | (with_reducible apply hnx; clear hnx nx)
    | (with_reducible refine And.intro (by omega) ?_)
    | (with_reducible refine And.intro ?_ ?_)
    | (with_reducible refine pe (c1) ?_)
    | (with_reducible refine pe (c2) ?_)
    | (with_reducible refine pe (c3) ?_)
    | ((refine pcall_mid [_, _] [_] [_] rfl hD ?_; rintro _ _ ⟨rfl, rfl⟩; refine Ev_in ?_))
    | ((refine pcall_mid [_] (endO e w m {  s with wait := wt, acked := a , owing := true, held := s.held ++ [(q, b)] }) [] rfl (deliver_c G e w m {  s with wait := wt, acked := a , owing := true, held := s.held ++ [(q, b)] } (by (try simp only [List.length_append, List.length_cons, List.length_nil]); omega) (by (try simp only [List.length_append, List.length_cons, List.length_nil]); omega)) ?_; rintro _ _ ⟨rfl, rfl⟩; refine Ev_in ?_))
    | (clear hnx nx; with_reducible apply hnx; clear hnx nx)
    | (clear hnx nx; clear hnx nx; with_reducible apply hnx; clear hnx nx))
        all_goals first
          | (exfalso
             omega)
          | skip
        refine hfin _ _ (Fin_ret2 rfl rfl (H := endO e w m (delL {  s with wait := wt, acked := a , owing := true, held := s.held ++ [(q, b)] }).2) ⟨fun x hx => .tail _ hx, nd⟩ ⟨.inr ?_, w, m, rfl⟩)
        simp only [fr_getD_cons, Nat.reduceEqDiff, Nat.reduceLT, ↓reduceIte]
      · have hX : holdL { s with wait := wt, acked := a } q b = {  s with wait := wt, acked := a , owing := true } := by
          rw [holdL, if_neg (fun h => hq h.1)]
        rw [hX]
        clear hX
        (refine PCalls_f Try.func19 rfl Try.ntmps19 Try.results19 (by simp) fun fin hfin => ?_; have hnm : True := trivial; simp only [ev, Nat.reduceAdd, Nat.reduceMul, Nat.reduceSub, Nat.reduceLeDiff, Nat.reduceEqDiff, ↓reduceIte, reduceCtorEq, Nat.reduceLT, Nat.reducePow, Nat.reduceDiv, Nat.reduceMod, Nat.reduceBEq, Int.reduceLT, Int.reduceLE, Int.reduceToNat, Int.reduceAdd, Int.reduceSub, Int.reduceNeg])
        repeat' (first
    | (with_reducible apply W_seq_k; intro nx hnx)
    | (with_reducible first | refine wr 6131 ?_ | refine wd (id := 9) 6131 1 (.op 0 true (.op 1 true (.op 2 true (.op 3 true (.op 4 true (.op 5 true (.op 6 true (.op 7 true (.op 8 true (.op 9 true (.op 10 true (.op 11 true (.op 12 true (.op 13 true (.op 14 true (.op 15 true (.op 16 true (.op 17 true (.op 18 true (.op 19 true (.op 20 true (.op 21 true (.op 22 true (.done)))))))))))))))))))))))) (by kernel_rfl) ?_ | refine wd (id := 11) 6131 1 (.op 0 true (.op 1 true (.op 2 true (.op 3 true (.op 4 true (.op 5 true (.op 6 true (.op 7 true (.done))))))))) (by kernel_rfl) ?_ | refine wd (id := 18) 6131 1 (.op 0 true (.op 1 true (.op 2 true (.op 3 true (.op 4 true (.op 5 true (.op 6 true (.op 7 true (.op 8 true (.op 9 true (.op 10 true (.op 11 true (.done))))))))))))) (by kernel_rfl) ?_ | refine wd (id := 19) 6131 1 (.op 0 true (.op 1 true (.op 2 true (.op 3 true (.op 4 true (.op 5 true (.op 6 true (.op 7 true (.op 8 true (.op 9 true (.op 10 true (.done)))))))))))) (by kernel_rfl) ?_ | refine wd (id := 20) 6131 1 (.op 0 true (.op 1 true (.op 2 true (.op 3 true (.op 4 true (.op 5 true (.op 6 true (.op 7 true (.op 8 true (.op 9 false (.done))))))))))) (by kernel_rfl) ?_)
    | ((with_reducible first | (apply WL_op; intro nx hnx) | refine Ev_out ?_ | refine wc ?_ | (apply popsD_op; intro nx hnx) | (refine popsD_alt ?_ ?_; intro nx hnx) | (refine pf hnm fun nm hnm => ?_; try simp only [fmb] at hnm) | (refine pm hnm fun nm hnm => ?_; try simp only [fmb] at hnm) | (refine pmaybe_k ?_; intro bn hbn)); try (simp (maxSteps := 2000000) (disch := omega) only [ev, ↓evp, PV.cells, PV.one, PV.mem?, Value.cells, Nat.reduceAdd, Nat.reduceMul, Nat.reduceSub, Nat.reduceLeDiff, Nat.reduceEqDiff, ↓reduceIte, reduceCtorEq, Nat.reduceLT, Nat.reducePow, Nat.reduceDiv, Nat.reduceMod, Nat.reduceBEq, Int.reduceLT, Int.reduceLE, Int.reduceToNat, Int.reduceAdd, Int.reduceSub, Int.reduceNeg, hnm, Try.tf0, Try.tf1, Try.tf2, Try.tf3, Try.tf4, Try.tf5, Try.tf6, Try.tf7, Try.tf22, Try.tf28, Try.tf33, Try.tf34, Try.tf35, Try.tf49, Try.tf63, Try.tf65, Try.tf68, Try.tf70, Try.tf73, Try.call25, Try.call32, Try.call36, Try.call37, Try.call38, hM, hm, hsub]))
    | ((with_reducible first | apply W_block | apply W_scope | apply WL_nil | apply W_label | apply W_skip | apply W_exit | apply W_ret | apply popsD_done | exact popsD_stop) <;> try simp only [kks, Nat.reduceAdd, Nat.reduceMul, Nat.reduceSub, Nat.reduceLeDiff, Nat.reduceEqDiff, ↓reduceIte, reduceCtorEq, Nat.reduceLT, Nat.reducePow, Nat.reduceDiv, Nat.reduceMod, Nat.reduceBEq, Int.reduceLT, Int.reduceLE, Int.reduceToNat, Int.reduceAdd, Int.reduceSub, Int.reduceNeg])
    | (with_reducible apply pg <;> (intro hc; (try simp only [hcb, Nat.reduceAdd, Nat.reduceMul, Nat.reduceSub, Nat.reduceLeDiff, Nat.reduceEqDiff, ↓reduceIte, reduceCtorEq, Nat.reduceLT, Nat.reducePow, Nat.reduceDiv, Nat.reduceMod, Nat.reduceBEq, Int.reduceLT, Int.reduceLE, Int.reduceToNat, Int.reduceAdd, Int.reduceSub, Int.reduceNeg, ne_eq, forall_const] at hc); first | (exfalso; omega) | exact absurd trivial hc | skip))
    | (with_reducible apply hnx; clear hnx nx)
    | (with_reducible refine And.intro (by omega) ?_)
    | (with_reducible refine And.intro ?_ ?_)
    | (with_reducible refine pe (c1) ?_)
    | (with_reducible refine pe (c2) ?_)
    | (with_reducible refine pe (c3) ?_)
    | ((refine pcall_mid [_, _] [_] [_] rfl hD ?_; rintro _ _ ⟨rfl, rfl⟩; refine Ev_in ?_))
    | ((refine pcall_mid [_] (endO e w m {  s with wait := wt, acked := a , owing := true }) [] rfl (deliver_c G e w m {  s with wait := wt, acked := a , owing := true } (by (try simp only [List.length_append, List.length_cons, List.length_nil]); omega) (by (try simp only [List.length_append, List.length_cons, List.length_nil]); omega)) ?_; rintro _ _ ⟨rfl, rfl⟩; refine Ev_in ?_))
    | (clear hnx nx; with_reducible apply hnx; clear hnx nx)
    | (clear hnx nx; clear hnx nx; with_reducible apply hnx; clear hnx nx))
        all_goals first
          | (exfalso
             omega)
          | skip
        refine hfin _ _ (Fin_ret2 rfl rfl (H := endO e w m (delL {  s with wait := wt, acked := a , owing := true }).2) ⟨fun x hx => .tail _ hx, nd⟩ ⟨.inr ?_, w, m, rfl⟩)
        simp only [fr_getD_cons, Nat.reduceEqDiff, Nat.reduceLT, ↓reduceIte]
    | some y =>
      obtain ⟨y1, y2⟩ := y
      obtain ⟨j, hm, -, -, -⟩ := pull_some 0 hp
      have hX : holdL { s with wait := wt, acked := a } q b = {  s with wait := wt, acked := a , owing := true } := by
        rw [holdL, if_neg (fun h => by have := h.2; simp only [hp] at this; cases this)]
      rw [hX]
      clear hX
      (refine PCalls_f Try.func19 rfl Try.ntmps19 Try.results19 (by simp) fun fin hfin => ?_; have hnm : True := trivial; simp only [ev, Nat.reduceAdd, Nat.reduceMul, Nat.reduceSub, Nat.reduceLeDiff, Nat.reduceEqDiff, ↓reduceIte, reduceCtorEq, Nat.reduceLT, Nat.reducePow, Nat.reduceDiv, Nat.reduceMod, Nat.reduceBEq, Int.reduceLT, Int.reduceLE, Int.reduceToNat, Int.reduceAdd, Int.reduceSub, Int.reduceNeg])
      repeat' (first
    | (with_reducible apply W_seq_k; intro nx hnx)
    | (with_reducible first | refine wr 6131 ?_ | refine wd (id := 9) 6131 1 (.op 0 true (.op 1 true (.op 2 true (.op 3 true (.op 4 true (.op 5 true (.op 6 true (.op 7 true (.op 8 true (.op 9 true (.op 10 true (.op 11 true (.op 12 true (.op 13 true (.op 14 true (.op 15 true (.op 16 true (.op 17 true (.op 18 true (.op 19 true (.op 20 true (.op 21 true (.op 22 true (.done)))))))))))))))))))))))) (by kernel_rfl) ?_ | refine wd (id := 11) 6131 1 (.op 0 true (.op 1 true (.op 2 true (.op 3 true (.op 4 true (.op 5 true (.op 6 true (.op 7 true (.done))))))))) (by kernel_rfl) ?_ | refine wd (id := 18) 6131 1 (.op 0 true (.op 1 true (.op 2 true (.op 3 true (.op 4 true (.op 5 true (.op 6 true (.op 7 true (.op 8 true (.op 9 true (.op 10 true (.op 11 true (.done))))))))))))) (by kernel_rfl) ?_ | refine wd (id := 19) 6131 1 (.op 0 true (.op 1 true (.op 2 true (.op 3 true (.op 4 true (.op 5 true (.op 6 true (.op 7 true (.op 8 true (.op 9 true (.op 10 true (.done)))))))))))) (by kernel_rfl) ?_ | refine wd (id := 20) 6131 1 (.op 0 true (.op 1 true (.op 2 true (.op 3 true (.op 4 true (.op 5 true (.op 6 true (.op 7 true (.op 8 true (.op 9 false (.done))))))))))) (by kernel_rfl) ?_)
    | ((with_reducible first | (apply WL_op; intro nx hnx) | refine Ev_out ?_ | refine wc ?_ | (apply popsD_op; intro nx hnx) | (refine popsD_alt ?_ ?_; intro nx hnx) | (refine pf hnm fun nm hnm => ?_; try simp only [fmb] at hnm) | (refine pm hnm fun nm hnm => ?_; try simp only [fmb] at hnm) | (refine pmaybe_k ?_; intro bn hbn)); try (simp (maxSteps := 2000000) (disch := omega) only [ev, ↓evp, PV.cells, PV.one, PV.mem?, Value.cells, Nat.reduceAdd, Nat.reduceMul, Nat.reduceSub, Nat.reduceLeDiff, Nat.reduceEqDiff, ↓reduceIte, reduceCtorEq, Nat.reduceLT, Nat.reducePow, Nat.reduceDiv, Nat.reduceMod, Nat.reduceBEq, Int.reduceLT, Int.reduceLE, Int.reduceToNat, Int.reduceAdd, Int.reduceSub, Int.reduceNeg, hnm, Try.tf0, Try.tf1, Try.tf2, Try.tf3, Try.tf4, Try.tf5, Try.tf6, Try.tf7, Try.tf22, Try.tf28, Try.tf33, Try.tf34, Try.tf35, Try.tf49, Try.tf63, Try.tf65, Try.tf68, Try.tf70, Try.tf73, Try.call25, Try.call32, Try.call36, Try.call37, Try.call38, hM, hm, hsub]))
    | ((with_reducible first | apply W_block | apply W_scope | apply WL_nil | apply W_label | apply W_skip | apply W_exit | apply W_ret | apply popsD_done | exact popsD_stop) <;> try simp only [kks, Nat.reduceAdd, Nat.reduceMul, Nat.reduceSub, Nat.reduceLeDiff, Nat.reduceEqDiff, ↓reduceIte, reduceCtorEq, Nat.reduceLT, Nat.reducePow, Nat.reduceDiv, Nat.reduceMod, Nat.reduceBEq, Int.reduceLT, Int.reduceLE, Int.reduceToNat, Int.reduceAdd, Int.reduceSub, Int.reduceNeg])
    | (with_reducible apply pg <;> (intro hc; (try simp only [hcb, Nat.reduceAdd, Nat.reduceMul, Nat.reduceSub, Nat.reduceLeDiff, Nat.reduceEqDiff, ↓reduceIte, reduceCtorEq, Nat.reduceLT, Nat.reducePow, Nat.reduceDiv, Nat.reduceMod, Nat.reduceBEq, Int.reduceLT, Int.reduceLE, Int.reduceToNat, Int.reduceAdd, Int.reduceSub, Int.reduceNeg, ne_eq, forall_const] at hc); first | (exfalso; omega) | exact absurd trivial hc | skip))
    | (with_reducible apply hnx; clear hnx nx)
    | (with_reducible refine And.intro (by omega) ?_)
    | (with_reducible refine And.intro ?_ ?_)
    | (with_reducible refine pe (c1) ?_)
    | (with_reducible refine pe (c2) ?_)
    | (with_reducible refine pe (c3) ?_)
    | ((refine pcall_mid [_, _] [_] [_] rfl hD ?_; rintro _ _ ⟨rfl, rfl⟩; refine Ev_in ?_))
    | ((refine pcall_mid [_] (endO e w m {  s with wait := wt, acked := a , owing := true }) [] rfl (deliver_c G e w m {  s with wait := wt, acked := a , owing := true } (by (try simp only [List.length_append, List.length_cons, List.length_nil]); omega) (by (try simp only [List.length_append, List.length_cons, List.length_nil]); omega)) ?_; rintro _ _ ⟨rfl, rfl⟩; refine Ev_in ?_))
    | (clear hnx nx; with_reducible apply hnx; clear hnx nx)
    | (clear hnx nx; clear hnx nx; with_reducible apply hnx; clear hnx nx))
      all_goals first
        | (exfalso
           omega)
        | skip
      all_goals
        refine hfin _ _ (Fin_ret2 rfl rfl (H := endO e w m (delL {  s with wait := wt, acked := a , owing := true }).2) ⟨fun x hx => .tail _ hx, nd⟩ ⟨.inr ?_, w, m, rfl⟩)
        simp only [fr_getD_cons, Nat.reduceEqDiff, Nat.reduceLT, ↓reduceIte]
  · have hA : ackL s a = s := by rw [ackL, if_neg ha]
    rw [hA]
    by_cases hq0 : q = 0
    · subst hq0
      rw [if_pos rfl]
      (refine PCalls_f Try.func19 rfl Try.ntmps19 Try.results19 (by simp) fun fin hfin => ?_; have hnm : True := trivial; simp only [ev, Nat.reduceAdd, Nat.reduceMul, Nat.reduceSub, Nat.reduceLeDiff, Nat.reduceEqDiff, ↓reduceIte, reduceCtorEq, Nat.reduceLT, Nat.reducePow, Nat.reduceDiv, Nat.reduceMod, Nat.reduceBEq, Int.reduceLT, Int.reduceLE, Int.reduceToNat, Int.reduceAdd, Int.reduceSub, Int.reduceNeg])
      repeat' (first
    | (with_reducible apply W_seq_k; intro nx hnx)
    | (with_reducible first | refine wr 6131 ?_ | refine wd (id := 9) 6131 1 (.op 0 true (.op 1 true (.op 2 true (.op 3 true (.op 4 true (.op 5 true (.op 6 true (.op 7 true (.op 8 true (.op 9 true (.op 10 true (.op 11 true (.op 12 true (.op 13 true (.op 14 true (.op 15 true (.op 16 true (.op 17 true (.op 18 true (.op 19 true (.op 20 true (.op 21 true (.op 22 true (.done)))))))))))))))))))))))) (by kernel_rfl) ?_ | refine wd (id := 11) 6131 1 (.op 0 true (.op 1 true (.op 2 true (.op 3 true (.op 4 true (.op 5 true (.op 6 true (.op 7 true (.done))))))))) (by kernel_rfl) ?_ | refine wd (id := 18) 6131 1 (.op 0 true (.op 1 true (.op 2 true (.op 3 true (.op 4 true (.op 5 true (.op 6 true (.op 7 true (.op 8 true (.op 9 true (.op 10 true (.op 11 true (.done))))))))))))) (by kernel_rfl) ?_ | refine wd (id := 19) 6131 1 (.op 0 true (.op 1 true (.op 2 true (.op 3 true (.op 4 true (.op 5 true (.op 6 true (.op 7 true (.op 8 true (.op 9 true (.op 10 true (.done)))))))))))) (by kernel_rfl) ?_ | refine wd (id := 20) 6131 1 (.op 0 true (.op 1 true (.op 2 true (.op 3 true (.op 4 true (.op 5 true (.op 6 true (.op 7 true (.op 8 true (.op 9 false (.done))))))))))) (by kernel_rfl) ?_)
    | ((with_reducible first | (apply WL_op; intro nx hnx) | refine Ev_out ?_ | refine wc ?_ | (apply popsD_op; intro nx hnx) | (refine popsD_alt ?_ ?_; intro nx hnx) | (refine pf hnm fun nm hnm => ?_; try simp only [fmb] at hnm) | (refine pm hnm fun nm hnm => ?_; try simp only [fmb] at hnm) | (refine pmaybe_k ?_; intro bn hbn)); try (simp (maxSteps := 2000000) (disch := omega) only [ev, ↓evp, PV.cells, PV.one, PV.mem?, Value.cells, Nat.reduceAdd, Nat.reduceMul, Nat.reduceSub, Nat.reduceLeDiff, Nat.reduceEqDiff, ↓reduceIte, reduceCtorEq, Nat.reduceLT, Nat.reducePow, Nat.reduceDiv, Nat.reduceMod, Nat.reduceBEq, Int.reduceLT, Int.reduceLE, Int.reduceToNat, Int.reduceAdd, Int.reduceSub, Int.reduceNeg, hnm, Try.tf0, Try.tf1, Try.tf2, Try.tf3, Try.tf4, Try.tf5, Try.tf6, Try.tf7, Try.tf22, Try.tf28, Try.tf33, Try.tf34, Try.tf35, Try.tf49, Try.tf63, Try.tf65, Try.tf68, Try.tf70, Try.tf73, Try.call25, Try.call32, Try.call36, Try.call37, Try.call38, hM]))
    | ((with_reducible first | apply W_block | apply W_scope | apply WL_nil | apply W_label | apply W_skip | apply W_exit | apply W_ret | apply popsD_done | exact popsD_stop) <;> try simp only [kks, Nat.reduceAdd, Nat.reduceMul, Nat.reduceSub, Nat.reduceLeDiff, Nat.reduceEqDiff, ↓reduceIte, reduceCtorEq, Nat.reduceLT, Nat.reducePow, Nat.reduceDiv, Nat.reduceMod, Nat.reduceBEq, Int.reduceLT, Int.reduceLE, Int.reduceToNat, Int.reduceAdd, Int.reduceSub, Int.reduceNeg])
    | (with_reducible apply pg <;> (intro hc; (try simp only [hcb, Nat.reduceAdd, Nat.reduceMul, Nat.reduceSub, Nat.reduceLeDiff, Nat.reduceEqDiff, ↓reduceIte, reduceCtorEq, Nat.reduceLT, Nat.reducePow, Nat.reduceDiv, Nat.reduceMod, Nat.reduceBEq, Int.reduceLT, Int.reduceLE, Int.reduceToNat, Int.reduceAdd, Int.reduceSub, Int.reduceNeg, ne_eq, forall_const] at hc); first | (exfalso; omega) | exact absurd trivial hc | skip))
    | (with_reducible apply hnx; clear hnx nx)
    | (with_reducible refine And.intro (by omega) ?_)
    | (with_reducible refine And.intro ?_ ?_)
    | (with_reducible refine pe (c1) ?_)
    | (with_reducible refine pe (c2) ?_)
    | (clear hnx nx; with_reducible apply hnx; clear hnx nx)
    | (clear hnx nx; clear hnx nx; with_reducible apply hnx; clear hnx nx))
      all_goals first
        | (exfalso
           omega)
        | skip
      refine hfin _ _ (Fin_ret2 rfl rfl (H := endO e w m s) ⟨fun x hx => .tail _ hx, nd⟩ ⟨.inl ⟨rfl, ?_⟩, w, m, rfl⟩)
      simp only [fr_getD_cons, Nat.reduceEqDiff, Nat.reduceLT, ↓reduceIte]
    rw [if_neg hq0]
    cases hp : pull q s.held with
    | none =>
      have hm := pull_none 0 hp
      by_cases hq : s.got < q
      · have hX : holdL s q b = { s with owing := true, held := s.held ++ [(q, b)] } := by
          rw [holdL, if_pos ⟨hq, hp⟩]
        rw [hX]
        clear hX
        have hE : entsP s.held ++ [.ent (pint .i64 q) (pl b)] = entsP (s.held ++ [(q, b)]) := by simp
        (refine PCalls_f Try.func19 rfl Try.ntmps19 Try.results19 (by simp) fun fin hfin => ?_; have hnm : True := trivial; simp only [ev, Nat.reduceAdd, Nat.reduceMul, Nat.reduceSub, Nat.reduceLeDiff, Nat.reduceEqDiff, ↓reduceIte, reduceCtorEq, Nat.reduceLT, Nat.reducePow, Nat.reduceDiv, Nat.reduceMod, Nat.reduceBEq, Int.reduceLT, Int.reduceLE, Int.reduceToNat, Int.reduceAdd, Int.reduceSub, Int.reduceNeg])
        repeat' (first
    | (with_reducible apply W_seq_k; intro nx hnx)
    | (with_reducible first | refine wr 6131 ?_ | refine wd (id := 9) 6131 1 (.op 0 true (.op 1 true (.op 2 true (.op 3 true (.op 4 true (.op 5 true (.op 6 true (.op 7 true (.op 8 true (.op 9 true (.op 10 true (.op 11 true (.op 12 true (.op 13 true (.op 14 true (.op 15 true (.op 16 true (.op 17 true (.op 18 true (.op 19 true (.op 20 true (.op 21 true (.op 22 true (.done)))))))))))))))))))))))) (by kernel_rfl) ?_ | refine wd (id := 11) 6131 1 (.op 0 true (.op 1 true (.op 2 true (.op 3 true (.op 4 true (.op 5 true (.op 6 true (.op 7 true (.done))))))))) (by kernel_rfl) ?_ | refine wd (id := 18) 6131 1 (.op 0 true (.op 1 true (.op 2 true (.op 3 true (.op 4 true (.op 5 true (.op 6 true (.op 7 true (.op 8 true (.op 9 true (.op 10 true (.op 11 true (.done))))))))))))) (by kernel_rfl) ?_ | refine wd (id := 19) 6131 1 (.op 0 true (.op 1 true (.op 2 true (.op 3 true (.op 4 true (.op 5 true (.op 6 true (.op 7 true (.op 8 true (.op 9 true (.op 10 true (.done)))))))))))) (by kernel_rfl) ?_ | refine wd (id := 20) 6131 1 (.op 0 true (.op 1 true (.op 2 true (.op 3 true (.op 4 true (.op 5 true (.op 6 true (.op 7 true (.op 8 true (.op 9 false (.done))))))))))) (by kernel_rfl) ?_)
    | ((with_reducible first | (apply WL_op; intro nx hnx) | refine Ev_out ?_ | refine wc ?_ | (apply popsD_op; intro nx hnx) | (refine popsD_alt ?_ ?_; intro nx hnx) | (refine pf hnm fun nm hnm => ?_; try simp only [fmb] at hnm) | (refine pm hnm fun nm hnm => ?_; try simp only [fmb] at hnm) | (refine pmaybe_k ?_; intro bn hbn)); try (simp (maxSteps := 2000000) (disch := omega) only [ev, ↓evp, PV.cells, PV.one, PV.mem?, Value.cells, Nat.reduceAdd, Nat.reduceMul, Nat.reduceSub, Nat.reduceLeDiff, Nat.reduceEqDiff, ↓reduceIte, reduceCtorEq, Nat.reduceLT, Nat.reducePow, Nat.reduceDiv, Nat.reduceMod, Nat.reduceBEq, Int.reduceLT, Int.reduceLE, Int.reduceToNat, Int.reduceAdd, Int.reduceSub, Int.reduceNeg, hnm, Try.tf0, Try.tf1, Try.tf2, Try.tf3, Try.tf4, Try.tf5, Try.tf6, Try.tf7, Try.tf22, Try.tf28, Try.tf33, Try.tf34, Try.tf35, Try.tf49, Try.tf63, Try.tf65, Try.tf68, Try.tf70, Try.tf73, Try.call25, Try.call32, Try.call36, Try.call37, Try.call38, hM, hm, hE]))
    | ((with_reducible first | apply W_block | apply W_scope | apply WL_nil | apply W_label | apply W_skip | apply W_exit | apply W_ret | apply popsD_done | exact popsD_stop) <;> try simp only [kks, Nat.reduceAdd, Nat.reduceMul, Nat.reduceSub, Nat.reduceLeDiff, Nat.reduceEqDiff, ↓reduceIte, reduceCtorEq, Nat.reduceLT, Nat.reducePow, Nat.reduceDiv, Nat.reduceMod, Nat.reduceBEq, Int.reduceLT, Int.reduceLE, Int.reduceToNat, Int.reduceAdd, Int.reduceSub, Int.reduceNeg])
    | (with_reducible apply pg <;> (intro hc; (try simp only [hcb, Nat.reduceAdd, Nat.reduceMul, Nat.reduceSub, Nat.reduceLeDiff, Nat.reduceEqDiff, ↓reduceIte, reduceCtorEq, Nat.reduceLT, Nat.reducePow, Nat.reduceDiv, Nat.reduceMod, Nat.reduceBEq, Int.reduceLT, Int.reduceLE, Int.reduceToNat, Int.reduceAdd, Int.reduceSub, Int.reduceNeg, ne_eq, forall_const] at hc); first | (exfalso; omega) | exact absurd trivial hc | skip))
    | (with_reducible apply hnx; clear hnx nx)
    | (with_reducible refine And.intro (by omega) ?_)
    | (with_reducible refine And.intro ?_ ?_)
    | (with_reducible refine pe (c1) ?_)
    | (with_reducible refine pe (c2) ?_)
    | (with_reducible refine pe (c3) ?_)
    | ((refine pcall_mid [_] (endO e w m { s with owing := true, held := s.held ++ [(q, b)] }) [] rfl (deliver_c G e w m { s with owing := true, held := s.held ++ [(q, b)] } (by (try simp only [List.length_append, List.length_cons, List.length_nil]); omega) (by (try simp only [List.length_append, List.length_cons, List.length_nil]); omega)) ?_; rintro _ _ ⟨rfl, rfl⟩; refine Ev_in ?_))
    | (clear hnx nx; with_reducible apply hnx; clear hnx nx)
    | (clear hnx nx; clear hnx nx; with_reducible apply hnx; clear hnx nx))
        all_goals first
          | (exfalso
             omega)
          | skip
        refine hfin _ _ (Fin_ret2 rfl rfl (H := endO e w m (delL { s with owing := true, held := s.held ++ [(q, b)] }).2) ⟨fun x hx => .tail _ hx, nd⟩ ⟨.inr ?_, w, m, rfl⟩)
        simp only [fr_getD_cons, Nat.reduceEqDiff, Nat.reduceLT, ↓reduceIte]
      · have hX : holdL s q b = { s with owing := true } := by
          rw [holdL, if_neg (fun h => hq h.1)]
        rw [hX]
        clear hX
        (refine PCalls_f Try.func19 rfl Try.ntmps19 Try.results19 (by simp) fun fin hfin => ?_; have hnm : True := trivial; simp only [ev, Nat.reduceAdd, Nat.reduceMul, Nat.reduceSub, Nat.reduceLeDiff, Nat.reduceEqDiff, ↓reduceIte, reduceCtorEq, Nat.reduceLT, Nat.reducePow, Nat.reduceDiv, Nat.reduceMod, Nat.reduceBEq, Int.reduceLT, Int.reduceLE, Int.reduceToNat, Int.reduceAdd, Int.reduceSub, Int.reduceNeg])
        repeat' (first
    | (with_reducible apply W_seq_k; intro nx hnx)
    | (with_reducible first | refine wr 6131 ?_ | refine wd (id := 9) 6131 1 (.op 0 true (.op 1 true (.op 2 true (.op 3 true (.op 4 true (.op 5 true (.op 6 true (.op 7 true (.op 8 true (.op 9 true (.op 10 true (.op 11 true (.op 12 true (.op 13 true (.op 14 true (.op 15 true (.op 16 true (.op 17 true (.op 18 true (.op 19 true (.op 20 true (.op 21 true (.op 22 true (.done)))))))))))))))))))))))) (by kernel_rfl) ?_ | refine wd (id := 11) 6131 1 (.op 0 true (.op 1 true (.op 2 true (.op 3 true (.op 4 true (.op 5 true (.op 6 true (.op 7 true (.done))))))))) (by kernel_rfl) ?_ | refine wd (id := 18) 6131 1 (.op 0 true (.op 1 true (.op 2 true (.op 3 true (.op 4 true (.op 5 true (.op 6 true (.op 7 true (.op 8 true (.op 9 true (.op 10 true (.op 11 true (.done))))))))))))) (by kernel_rfl) ?_ | refine wd (id := 19) 6131 1 (.op 0 true (.op 1 true (.op 2 true (.op 3 true (.op 4 true (.op 5 true (.op 6 true (.op 7 true (.op 8 true (.op 9 true (.op 10 true (.done)))))))))))) (by kernel_rfl) ?_ | refine wd (id := 20) 6131 1 (.op 0 true (.op 1 true (.op 2 true (.op 3 true (.op 4 true (.op 5 true (.op 6 true (.op 7 true (.op 8 true (.op 9 false (.done))))))))))) (by kernel_rfl) ?_)
    | ((with_reducible first | (apply WL_op; intro nx hnx) | refine Ev_out ?_ | refine wc ?_ | (apply popsD_op; intro nx hnx) | (refine popsD_alt ?_ ?_; intro nx hnx) | (refine pf hnm fun nm hnm => ?_; try simp only [fmb] at hnm) | (refine pm hnm fun nm hnm => ?_; try simp only [fmb] at hnm) | (refine pmaybe_k ?_; intro bn hbn)); try (simp (maxSteps := 2000000) (disch := omega) only [ev, ↓evp, PV.cells, PV.one, PV.mem?, Value.cells, Nat.reduceAdd, Nat.reduceMul, Nat.reduceSub, Nat.reduceLeDiff, Nat.reduceEqDiff, ↓reduceIte, reduceCtorEq, Nat.reduceLT, Nat.reducePow, Nat.reduceDiv, Nat.reduceMod, Nat.reduceBEq, Int.reduceLT, Int.reduceLE, Int.reduceToNat, Int.reduceAdd, Int.reduceSub, Int.reduceNeg, hnm, Try.tf0, Try.tf1, Try.tf2, Try.tf3, Try.tf4, Try.tf5, Try.tf6, Try.tf7, Try.tf22, Try.tf28, Try.tf33, Try.tf34, Try.tf35, Try.tf49, Try.tf63, Try.tf65, Try.tf68, Try.tf70, Try.tf73, Try.call25, Try.call32, Try.call36, Try.call37, Try.call38, hM, hm]))
    | ((with_reducible first | apply W_block | apply W_scope | apply WL_nil | apply W_label | apply W_skip | apply W_exit | apply W_ret | apply popsD_done | exact popsD_stop) <;> try simp only [kks, Nat.reduceAdd, Nat.reduceMul, Nat.reduceSub, Nat.reduceLeDiff, Nat.reduceEqDiff, ↓reduceIte, reduceCtorEq, Nat.reduceLT, Nat.reducePow, Nat.reduceDiv, Nat.reduceMod, Nat.reduceBEq, Int.reduceLT, Int.reduceLE, Int.reduceToNat, Int.reduceAdd, Int.reduceSub, Int.reduceNeg])
    | (with_reducible apply pg <;> (intro hc; (try simp only [hcb, Nat.reduceAdd, Nat.reduceMul, Nat.reduceSub, Nat.reduceLeDiff, Nat.reduceEqDiff, ↓reduceIte, reduceCtorEq, Nat.reduceLT, Nat.reducePow, Nat.reduceDiv, Nat.reduceMod, Nat.reduceBEq, Int.reduceLT, Int.reduceLE, Int.reduceToNat, Int.reduceAdd, Int.reduceSub, Int.reduceNeg, ne_eq, forall_const] at hc); first | (exfalso; omega) | exact absurd trivial hc | skip))
    | (with_reducible apply hnx; clear hnx nx)
    | (with_reducible refine And.intro (by omega) ?_)
    | (with_reducible refine And.intro ?_ ?_)
    | (with_reducible refine pe (c1) ?_)
    | (with_reducible refine pe (c2) ?_)
    | (with_reducible refine pe (c3) ?_)
    | ((refine pcall_mid [_] (endO e w m { s with owing := true }) [] rfl (deliver_c G e w m { s with owing := true } (by (try simp only [List.length_append, List.length_cons, List.length_nil]); omega) (by (try simp only [List.length_append, List.length_cons, List.length_nil]); omega)) ?_; rintro _ _ ⟨rfl, rfl⟩; refine Ev_in ?_))
    | (clear hnx nx; with_reducible apply hnx; clear hnx nx)
    | (clear hnx nx; clear hnx nx; with_reducible apply hnx; clear hnx nx))
        all_goals first
          | (exfalso
             omega)
          | skip
        refine hfin _ _ (Fin_ret2 rfl rfl (H := endO e w m (delL { s with owing := true }).2) ⟨fun x hx => .tail _ hx, nd⟩ ⟨.inr ?_, w, m, rfl⟩)
        simp only [fr_getD_cons, Nat.reduceEqDiff, Nat.reduceLT, ↓reduceIte]
    | some y =>
      obtain ⟨y1, y2⟩ := y
      obtain ⟨j, hm, -, -, -⟩ := pull_some 0 hp
      have hX : holdL s q b = { s with owing := true } := by
        rw [holdL, if_neg (fun h => by have := h.2; simp only [hp] at this; cases this)]
      rw [hX]
      clear hX
      (refine PCalls_f Try.func19 rfl Try.ntmps19 Try.results19 (by simp) fun fin hfin => ?_; have hnm : True := trivial; simp only [ev, Nat.reduceAdd, Nat.reduceMul, Nat.reduceSub, Nat.reduceLeDiff, Nat.reduceEqDiff, ↓reduceIte, reduceCtorEq, Nat.reduceLT, Nat.reducePow, Nat.reduceDiv, Nat.reduceMod, Nat.reduceBEq, Int.reduceLT, Int.reduceLE, Int.reduceToNat, Int.reduceAdd, Int.reduceSub, Int.reduceNeg])
      repeat' (first
    | (with_reducible apply W_seq_k; intro nx hnx)
    | (with_reducible first | refine wr 6131 ?_ | refine wd (id := 9) 6131 1 (.op 0 true (.op 1 true (.op 2 true (.op 3 true (.op 4 true (.op 5 true (.op 6 true (.op 7 true (.op 8 true (.op 9 true (.op 10 true (.op 11 true (.op 12 true (.op 13 true (.op 14 true (.op 15 true (.op 16 true (.op 17 true (.op 18 true (.op 19 true (.op 20 true (.op 21 true (.op 22 true (.done)))))))))))))))))))))))) (by kernel_rfl) ?_ | refine wd (id := 11) 6131 1 (.op 0 true (.op 1 true (.op 2 true (.op 3 true (.op 4 true (.op 5 true (.op 6 true (.op 7 true (.done))))))))) (by kernel_rfl) ?_ | refine wd (id := 18) 6131 1 (.op 0 true (.op 1 true (.op 2 true (.op 3 true (.op 4 true (.op 5 true (.op 6 true (.op 7 true (.op 8 true (.op 9 true (.op 10 true (.op 11 true (.done))))))))))))) (by kernel_rfl) ?_ | refine wd (id := 19) 6131 1 (.op 0 true (.op 1 true (.op 2 true (.op 3 true (.op 4 true (.op 5 true (.op 6 true (.op 7 true (.op 8 true (.op 9 true (.op 10 true (.done)))))))))))) (by kernel_rfl) ?_ | refine wd (id := 20) 6131 1 (.op 0 true (.op 1 true (.op 2 true (.op 3 true (.op 4 true (.op 5 true (.op 6 true (.op 7 true (.op 8 true (.op 9 false (.done))))))))))) (by kernel_rfl) ?_)
    | ((with_reducible first | (apply WL_op; intro nx hnx) | refine Ev_out ?_ | refine wc ?_ | (apply popsD_op; intro nx hnx) | (refine popsD_alt ?_ ?_; intro nx hnx) | (refine pf hnm fun nm hnm => ?_; try simp only [fmb] at hnm) | (refine pm hnm fun nm hnm => ?_; try simp only [fmb] at hnm) | (refine pmaybe_k ?_; intro bn hbn)); try (simp (maxSteps := 2000000) (disch := omega) only [ev, ↓evp, PV.cells, PV.one, PV.mem?, Value.cells, Nat.reduceAdd, Nat.reduceMul, Nat.reduceSub, Nat.reduceLeDiff, Nat.reduceEqDiff, ↓reduceIte, reduceCtorEq, Nat.reduceLT, Nat.reducePow, Nat.reduceDiv, Nat.reduceMod, Nat.reduceBEq, Int.reduceLT, Int.reduceLE, Int.reduceToNat, Int.reduceAdd, Int.reduceSub, Int.reduceNeg, hnm, Try.tf0, Try.tf1, Try.tf2, Try.tf3, Try.tf4, Try.tf5, Try.tf6, Try.tf7, Try.tf22, Try.tf28, Try.tf33, Try.tf34, Try.tf35, Try.tf49, Try.tf63, Try.tf65, Try.tf68, Try.tf70, Try.tf73, Try.call25, Try.call32, Try.call36, Try.call37, Try.call38, hM, hm]))
    | ((with_reducible first | apply W_block | apply W_scope | apply WL_nil | apply W_label | apply W_skip | apply W_exit | apply W_ret | apply popsD_done | exact popsD_stop) <;> try simp only [kks, Nat.reduceAdd, Nat.reduceMul, Nat.reduceSub, Nat.reduceLeDiff, Nat.reduceEqDiff, ↓reduceIte, reduceCtorEq, Nat.reduceLT, Nat.reducePow, Nat.reduceDiv, Nat.reduceMod, Nat.reduceBEq, Int.reduceLT, Int.reduceLE, Int.reduceToNat, Int.reduceAdd, Int.reduceSub, Int.reduceNeg])
    | (with_reducible apply pg <;> (intro hc; (try simp only [hcb, Nat.reduceAdd, Nat.reduceMul, Nat.reduceSub, Nat.reduceLeDiff, Nat.reduceEqDiff, ↓reduceIte, reduceCtorEq, Nat.reduceLT, Nat.reducePow, Nat.reduceDiv, Nat.reduceMod, Nat.reduceBEq, Int.reduceLT, Int.reduceLE, Int.reduceToNat, Int.reduceAdd, Int.reduceSub, Int.reduceNeg, ne_eq, forall_const] at hc); first | (exfalso; omega) | exact absurd trivial hc | skip))
    | (with_reducible apply hnx; clear hnx nx)
    | (with_reducible refine And.intro (by omega) ?_)
    | (with_reducible refine And.intro ?_ ?_)
    | (with_reducible refine pe (c1) ?_)
    | (with_reducible refine pe (c2) ?_)
    | (with_reducible refine pe (c3) ?_)
    | ((refine pcall_mid [_] (endO e w m { s with owing := true }) [] rfl (deliver_c G e w m { s with owing := true } (by (try simp only [List.length_append, List.length_cons, List.length_nil]); omega) (by (try simp only [List.length_append, List.length_cons, List.length_nil]); omega)) ?_; rintro _ _ ⟨rfl, rfl⟩; refine Ev_in ?_))
    | (clear hnx nx; with_reducible apply hnx; clear hnx nx)
    | (clear hnx nx; clear hnx nx; with_reducible apply hnx; clear hnx nx))
      all_goals first
        | (exfalso
           omega)
        | skip
      all_goals
        refine hfin _ _ (Fin_ret2 rfl rfl (H := endO e w m (delL { s with owing := true }).2) ⟨fun x hx => .tail _ hx, nd⟩ ⟨.inr ?_, w, m, rfl⟩)
        simp only [fr_getD_cons, Nat.reduceEqDiff, Nat.reduceLT, ↓reduceIte]
theorem in_c (G : Globs) (e : Int) (s : LE) (x : List UInt8) (hx : x.length ≤ 4294900000) (hs : OkE s) (Hin : Heap) (hH : IsEnd e s Hin) :
    PCalls Try.prog G 19 [.ptr e 0, pl x] Hin (InR e (inL s x)) := by
  refine InR0.up ?_
  by_cases ho : (openF s.key x).2 = 0
  · cases hr : (readF (openF s.key x).1).2 with
    | false => exact in_none G e s x hx hs Hin hH ho hr
    | true => exact in_take G e s x hx hs Hin hH ho hr
  · exact in_bad G e s x hx hs Hin hH ho
end Go.PM

namespace Go.PM
open Go.Proofs
/-- A sealed packet. -/
def sealP (key : UInt64) (q a : Int) (b : List UInt8) : List UInt8 := packB q a b ++ sealB key (packB q a b)
theorem packB_len (q a : Int) (b : List UInt8) (h1 : inR q) (h2 : inR a) (hb : b.length ≤ 100000) : (packB q a b).length ≤ 100040 := by
  have n2 := intB_len9 (n := 2) ⟨by omega, by omega⟩
  have ns := intB_len9 h1
  have na := intB_len9 h2
  have nb := intB_len9 (n := b.length) ⟨by omega, by omega⟩
  simp [packB, encL, bytesB]
  omega
/-- The packets that an end sends. -/
def pktL (s : LE) (i : Nat) : List UInt8 := sealP s.key ((s.acked + i + 1 : Nat) : Int) (s.got : Int) (s.wait.getD i [])
def outP (s : LE) : List (List UInt8) := (List.range (min s.wait.length s.win)).map (pktL s)
def outL (s : LE) : List (List UInt8) × LE := (if min s.wait.length s.win = 0 ∧ s.owing = true then [sealP s.key 0 s.got []] else outP s, { s with owing := false })
theorem range_snoc (f : Nat → List UInt8) (k : Nat) : (List.range (k + 1)).map f = (List.range k).map f ++ [f k] := by simp [List.range_succ]
section
variable {P : Program} {G : Globs}
/-- An argument is read in another way. -/
theorem PCalls.arg1 {f : FuncId} {p p' : PV} {Hin : Heap} {R : PV → Heap → Prop} (h : ∀ w A v, Rep w A p v → Rep w A p' v) (hc : PCalls P G f [p'] Hin R) : PCalls P G f [p] Hin R := by
  intro w A F vals h1 h2 h3 h4 h5 h6 h7
  refine hc w A F vals h1 h2 h3 h4 h5 h6 (fun i q hq => ?_)
  match i, hq with
  | 0, hq =>
    cases hq
    obtain ⟨v, hv, hr⟩ := h7 0 p rfl
    exact ⟨v, hv, h _ _ _ hr⟩
theorem rep_pk (x y : PV) : ∀ (w : World) (A : Nat → Prop) (v : Value), Rep w A (.agg [x, y, pnil]) v → Rep w A (.agg [x, y, .list 1 []]) v := by
  intro w A v hr
  obtain ⟨f, rfl, h2⟩ := hr.agg_inv
  exact .agg [x, y, .list 1 []] f (fun j u hu => by
    match j, hu with
    | 0, hu => exact h2 0 u hu
    | 1, hu => exact h2 1 u hu
    | 2, hu => cases hu; exact nil_list 1 (h2 2 pnil rfl)
    | j + 3, hu => simp at hu)
end
attribute [local irreducible] W PCalls pcall pcallI WL
set_option maxRecDepth 100000 in
set_option maxHeartbeats 8000000 in
theorem out_r (G : Globs) (e w m : Int) (s : LE) (hs : OkE s) (hwin : s.win ≤ 1000) (hW : ∀ b ∈ s.wait, b.length ≤ 65536) :
    PCalls Try.prog G 13 [.ptr e 0] (endO e w m s) (fun res H => ∃ n : Int, (¬ n = e ∧ ¬ n = w ∧ ¬ n = m) ∧ res = .row n 1 (outL s).1.length ∧ H = (n, ⟨33, true, 1, (outL s).1.map pl⟩) :: endO e w m (outL s).2) := by
  obtain ⟨hs1, hs2, hs3, hs4⟩ := hs
  refine PCalls.nd fun nd => ?_
  have hM := end_nd nd
  obtain ⟨k, hk⟩ : ∃ k, k = min s.wait.length s.win := ⟨_, rfl⟩
  have hk2 : min (s.wait.length : Int) (s.win : Int) = (k : Int) := by omega
  have hkl : k ≤ s.wait.length := by omega
  have hk3 : k ≤ 1000 := by omega
  have hX : outL s = (if k = 0 ∧ s.owing = true then [sealP s.key 0 s.got []] else (List.range k).map (pktL s), { s with owing := false }) := by rw [outL, outP, ← hk]
  rw [hX]
  clear hX hk
  (refine PCalls_f Try.func13 rfl Try.ntmps13 Try.results13 (by simp) fun fin hfin => ?_; have hnm : True := trivial; simp only [ev, Nat.reduceAdd, Nat.reduceMul, Nat.reduceSub, Nat.reduceLeDiff, Nat.reduceEqDiff, ↓reduceIte, reduceCtorEq, Nat.reduceLT, Nat.reducePow, Nat.reduceDiv, Nat.reduceMod, Nat.reduceBEq, Int.reduceLT, Int.reduceLE, Int.reduceToNat, Int.reduceAdd, Int.reduceSub, Int.reduceNeg])
  with_reducible apply W_seq_k
  intro nx hnx
  repeat' (first
    | (with_reducible first | refine wr 7340093 ?_ | refine wd (id := 2) 7340093 1 (.op 0 true (.op 1 true (.op 2 true (.op 3 true (.op 4 true (.op 5 true (.op 6 true (.op 7 true (.op 8 true (.op 9 true (.op 10 true (.op 11 true (.op 12 true (.op 13 true (.op 14 true (.op 15 true (.op 16 true (.done)))))))))))))))))) (by kernel_rfl) ?_ | refine wd (id := 5) 7340093 8 (.op 0 true (.op 1 true (.op 2 true (.op 3 true (.op 4 true (.op 5 true (.op 6 true (.op 7 true (.op 8 true (.op 9 true (.op 10 true (.op 11 true (.op 12 true (.op 13 true (.op 14 true (.op 15 true (.op 16 true (.op 17 true (.op 18 true (.op 19 false (.op 20 false (.op 21 false (.op 22 true (.done)))))))))))))))))))))))) (by kernel_rfl) ?_ | refine wd (id := 8) 7340093 6 (.op 0 true (.op 1 true (.op 2 true (.op 3 true (.op 4 true (.op 5 true (.op 6 true (.op 7 true (.op 8 true (.op 9 true (.op 10 true (.op 11 false (.op 12 false (.op 13 false (.op 14 true (.done)))))))))))))))) (by kernel_rfl) ?_)
    | ((with_reducible first | (apply WL_op; intro nx hnx) | refine Ev_out ?_ | refine wc ?_ | (apply popsD_op; intro nx hnx) | (refine popsD_alt ?_ ?_; intro nx hnx) | (refine pf hnm fun nm hnm => ?_; try simp only [fmb] at hnm) | (refine pm hnm fun nm hnm => ?_; try simp only [fmb] at hnm) | (refine pmaybe_k ?_; intro bn hbn)); try (simp (maxSteps := 2000000) (disch := omega) only [ev, ↓evp, PV.cells, PV.one, PV.mem?, Value.cells, Nat.reduceAdd, Nat.reduceMul, Nat.reduceSub, Nat.reduceLeDiff, Nat.reduceEqDiff, ↓reduceIte, reduceCtorEq, Nat.reduceLT, Nat.reducePow, Nat.reduceDiv, Nat.reduceMod, Nat.reduceBEq, Int.reduceLT, Int.reduceLE, Int.reduceToNat, Int.reduceAdd, Int.reduceSub, Int.reduceNeg, hnm, Try.tf0, Try.tf1, Try.tf2, Try.tf3, Try.tf4, Try.tf5, Try.tf6, Try.tf22, Try.tf28, Try.tf33, Try.tf35, Try.tf65, Try.tf68, Try.call24, Try.call33]))
    | ((with_reducible first | apply W_block | apply W_scope | apply WL_nil | apply W_label | apply W_skip | apply W_exit | apply W_ret | apply popsD_done | exact popsD_stop) <;> try simp only [kks, Nat.reduceAdd, Nat.reduceMul, Nat.reduceSub, Nat.reduceLeDiff, Nat.reduceEqDiff, ↓reduceIte, reduceCtorEq, Nat.reduceLT, Nat.reducePow, Nat.reduceDiv, Nat.reduceMod, Nat.reduceBEq, Int.reduceLT, Int.reduceLE, Int.reduceToNat, Int.reduceAdd, Int.reduceSub, Int.reduceNeg])
    | (with_reducible apply pg <;> (intro hc; (try simp only [hcb, Nat.reduceAdd, Nat.reduceMul, Nat.reduceSub, Nat.reduceLeDiff, Nat.reduceEqDiff, ↓reduceIte, reduceCtorEq, Nat.reduceLT, Nat.reducePow, Nat.reduceDiv, Nat.reduceMod, Nat.reduceBEq, Int.reduceLT, Int.reduceLE, Int.reduceToNat, Int.reduceAdd, Int.reduceSub, Int.reduceNeg, ne_eq, forall_const] at hc); first | (exfalso; omega) | exact absurd trivial hc | skip))
    | (with_reducible apply hnx; clear hnx nx)
    | (with_reducible refine And.intro (by omega) ?_)
    | (with_reducible refine And.intro ?_ ?_)
    | (clear hnx nx; with_reducible apply hnx; clear hnx nx)
    | (clear hnx nx; clear hnx nx; with_reducible apply hnx; clear hnx nx))
  with_reducible apply W_seq_k
  intro nx hnx
  repeat' (first
    | (with_reducible first | refine wr 7340093 ?_ | refine wd (id := 2) 7340093 1 (.op 0 true (.op 1 true (.op 2 true (.op 3 true (.op 4 true (.op 5 true (.op 6 true (.op 7 true (.op 8 true (.op 9 true (.op 10 true (.op 11 true (.op 12 true (.op 13 true (.op 14 true (.op 15 true (.op 16 true (.done)))))))))))))))))) (by kernel_rfl) ?_ | refine wd (id := 5) 7340093 8 (.op 0 true (.op 1 true (.op 2 true (.op 3 true (.op 4 true (.op 5 true (.op 6 true (.op 7 true (.op 8 true (.op 9 true (.op 10 true (.op 11 true (.op 12 true (.op 13 true (.op 14 true (.op 15 true (.op 16 true (.op 17 true (.op 18 true (.op 19 false (.op 20 false (.op 21 false (.op 22 true (.done)))))))))))))))))))))))) (by kernel_rfl) ?_ | refine wd (id := 8) 7340093 6 (.op 0 true (.op 1 true (.op 2 true (.op 3 true (.op 4 true (.op 5 true (.op 6 true (.op 7 true (.op 8 true (.op 9 true (.op 10 true (.op 11 false (.op 12 false (.op 13 false (.op 14 true (.done)))))))))))))))) (by kernel_rfl) ?_)
    | ((with_reducible first | (apply WL_op; intro nx hnx) | refine Ev_out ?_ | refine wc ?_ | (apply popsD_op; intro nx hnx) | (refine popsD_alt ?_ ?_; intro nx hnx) | (refine pf hnm fun nm hnm => ?_; try simp only [fmb] at hnm) | (refine pm hnm fun nm hnm => ?_; try simp only [fmb] at hnm) | (refine pmaybe_k ?_; intro bn hbn)); try (simp (maxSteps := 2000000) (disch := omega) only [ev, ↓evp, PV.cells, PV.one, PV.mem?, Value.cells, Nat.reduceAdd, Nat.reduceMul, Nat.reduceSub, Nat.reduceLeDiff, Nat.reduceEqDiff, ↓reduceIte, reduceCtorEq, Nat.reduceLT, Nat.reducePow, Nat.reduceDiv, Nat.reduceMod, Nat.reduceBEq, Int.reduceLT, Int.reduceLE, Int.reduceToNat, Int.reduceAdd, Int.reduceSub, Int.reduceNeg, hnm, Try.tf0, Try.tf1, Try.tf2, Try.tf3, Try.tf4, Try.tf5, Try.tf6, Try.tf22, Try.tf28, Try.tf33, Try.tf35, Try.tf65, Try.tf68, Try.call24, Try.call33]))
    | ((with_reducible first | apply W_block | apply W_scope | apply WL_nil | apply W_label | apply W_skip | apply W_exit | apply W_ret | apply popsD_done | exact popsD_stop) <;> try simp only [kks, Nat.reduceAdd, Nat.reduceMul, Nat.reduceSub, Nat.reduceLeDiff, Nat.reduceEqDiff, ↓reduceIte, reduceCtorEq, Nat.reduceLT, Nat.reducePow, Nat.reduceDiv, Nat.reduceMod, Nat.reduceBEq, Int.reduceLT, Int.reduceLE, Int.reduceToNat, Int.reduceAdd, Int.reduceSub, Int.reduceNeg])
    | (with_reducible apply pg <;> (intro hc; (try simp only [hcb, Nat.reduceAdd, Nat.reduceMul, Nat.reduceSub, Nat.reduceLeDiff, Nat.reduceEqDiff, ↓reduceIte, reduceCtorEq, Nat.reduceLT, Nat.reducePow, Nat.reduceDiv, Nat.reduceMod, Nat.reduceBEq, Int.reduceLT, Int.reduceLE, Int.reduceToNat, Int.reduceAdd, Int.reduceSub, Int.reduceNeg, ne_eq, forall_const] at hc); first | (exfalso; omega) | exact absurd trivial hc | skip))
    | (with_reducible apply hnx; clear hnx nx)
    | (with_reducible refine And.intro (by omega) ?_)
    | (with_reducible refine And.intro ?_ ?_)
    | (clear hnx nx; with_reducible apply hnx; clear hnx nx)
    | (clear hnx nx; clear hnx nx; with_reducible apply hnx; clear hnx nx))
  refine W_adopt_f 3 33 1 (by simp only [fr_getD_cons, Nat.reduceEqDiff, Nat.reduceLT, ↓reduceIte]) fun nm0 hnm0 => ?_
  have hn0 : ¬ nm0 = e ∧ ¬ nm0 = w ∧ ¬ nm0 = m := by simpa [names] using hnm0
  repeat' (first
    | (with_reducible apply W_seq_k; intro nx hnx)
    | (with_reducible first | refine wr 7340093 ?_ | refine wd (id := 2) 7340093 1 (.op 0 true (.op 1 true (.op 2 true (.op 3 true (.op 4 true (.op 5 true (.op 6 true (.op 7 true (.op 8 true (.op 9 true (.op 10 true (.op 11 true (.op 12 true (.op 13 true (.op 14 true (.op 15 true (.op 16 true (.done)))))))))))))))))) (by kernel_rfl) ?_ | refine wd (id := 5) 7340093 8 (.op 0 true (.op 1 true (.op 2 true (.op 3 true (.op 4 true (.op 5 true (.op 6 true (.op 7 true (.op 8 true (.op 9 true (.op 10 true (.op 11 true (.op 12 true (.op 13 true (.op 14 true (.op 15 true (.op 16 true (.op 17 true (.op 18 true (.op 19 false (.op 20 false (.op 21 false (.op 22 true (.done)))))))))))))))))))))))) (by kernel_rfl) ?_ | refine wd (id := 8) 7340093 6 (.op 0 true (.op 1 true (.op 2 true (.op 3 true (.op 4 true (.op 5 true (.op 6 true (.op 7 true (.op 8 true (.op 9 true (.op 10 true (.op 11 false (.op 12 false (.op 13 false (.op 14 true (.done)))))))))))))))) (by kernel_rfl) ?_)
    | ((with_reducible first | (apply WL_op; intro nx hnx) | refine Ev_out ?_ | refine wc ?_ | (apply popsD_op; intro nx hnx) | (refine popsD_alt ?_ ?_; intro nx hnx) | (refine pf hnm fun nm hnm => ?_; try simp only [fmb] at hnm) | (refine pm hnm fun nm hnm => ?_; try simp only [fmb] at hnm) | (refine pmaybe_k ?_; intro bn hbn)); try (simp (maxSteps := 2000000) (disch := omega) only [ev, ↓evp, PV.cells, PV.one, PV.mem?, Value.cells, Nat.reduceAdd, Nat.reduceMul, Nat.reduceSub, Nat.reduceLeDiff, Nat.reduceEqDiff, ↓reduceIte, reduceCtorEq, Nat.reduceLT, Nat.reducePow, Nat.reduceDiv, Nat.reduceMod, Nat.reduceBEq, Int.reduceLT, Int.reduceLE, Int.reduceToNat, Int.reduceAdd, Int.reduceSub, Int.reduceNeg, hnm, Try.tf0, Try.tf1, Try.tf2, Try.tf3, Try.tf4, Try.tf5, Try.tf6, Try.tf22, Try.tf28, Try.tf33, Try.tf35, Try.tf65, Try.tf68, Try.call24, Try.call33, hM, hn0, hk2]))
    | ((with_reducible first | apply W_block | apply W_scope | apply WL_nil | apply W_label | apply W_skip | apply W_exit | apply W_ret | apply popsD_done | exact popsD_stop) <;> try simp only [kks, Nat.reduceAdd, Nat.reduceMul, Nat.reduceSub, Nat.reduceLeDiff, Nat.reduceEqDiff, ↓reduceIte, reduceCtorEq, Nat.reduceLT, Nat.reducePow, Nat.reduceDiv, Nat.reduceMod, Nat.reduceBEq, Int.reduceLT, Int.reduceLE, Int.reduceToNat, Int.reduceAdd, Int.reduceSub, Int.reduceNeg])
    | (with_reducible apply pg <;> (intro hc; (try simp only [hcb, Nat.reduceAdd, Nat.reduceMul, Nat.reduceSub, Nat.reduceLeDiff, Nat.reduceEqDiff, ↓reduceIte, reduceCtorEq, Nat.reduceLT, Nat.reducePow, Nat.reduceDiv, Nat.reduceMod, Nat.reduceBEq, Int.reduceLT, Int.reduceLE, Int.reduceToNat, Int.reduceAdd, Int.reduceSub, Int.reduceNeg, ne_eq, forall_const] at hc); first | (exfalso; omega) | exact absurd trivial hc | skip))
    | (with_reducible apply hnx; clear hnx nx)
    | (with_reducible refine And.intro (by omega) ?_)
    | (with_reducible refine And.intro ?_ ?_)
    | (clear hnx nx; with_reducible apply hnx; clear hnx nx)
    | (clear hnx nx; clear hnx nx; with_reducible apply hnx; clear hnx nx))
  all_goals first
    | (exfalso
       omega)
    | skip
  refine W_loop_k (fun z τ => ∃ (n : Int) (i : Nat), i ≤ k ∧ z = k - i ∧ τ = ⟨fr 77 [(0, .ptr e 0), (3, .row n 1 ((List.range i).map (pktL s)).length), (20, .row w 1 k), (21, pint .i64 k), (22, pint .i64 i)], (n, ⟨33, true, 1, ((List.range i).map (pktL s)).map pl⟩) :: endO e w m s⟩) k
    ⟨fr 77 [(0, .ptr e 0), (3, .row nm0 1 ((List.range 0).map (pktL s)).length), (20, .row w 1 k), (21, pint .i64 k), (22, pint .i64 (0 : Nat))], (nm0, ⟨33, true, 1, ((List.range 0).map (pktL s)).map pl⟩) :: endO e w m s⟩ (by
    refine Wk_fr (by simp only [wkb, Nat.reduceAdd, Nat.reduceMul, Nat.reduceSub, Nat.reduceLeDiff, Nat.reduceEqDiff, ↓reduceIte, reduceCtorEq, Nat.reduceLT, Nat.reducePow, Nat.reduceDiv, Nat.reduceMod, Nat.reduceBEq, Int.reduceLT, Int.reduceLE, Int.reduceToNat, Int.reduceAdd, Int.reduceSub, Int.reduceNeg, List.length_nil, List.range_zero, List.map_nil]) ?_
    exact Sub_refl (by simp [names, hM, hn0])) ⟨nm0, 0, by omega, by omega, rfl⟩ ?_
  clear hnm0 hn0
  rintro z τ ⟨n, i, hi, rfl, rfl⟩ lp hlp
  refine W_nd fun nd2 => ?_
  have hN0 : ¬ n = e ∧ ¬ n = w ∧ ¬ n = m := by
    simp only [names, List.map_cons, List.map_nil, List.nodup_cons, List.mem_cons, List.not_mem_nil, or_false, not_or] at nd2
    exact nd2.1
  have hN : (n = e) = False ∧ (n = w) = False ∧ (n = m) = False := ⟨eq_false hN0.1, eq_false hN0.2.1, eq_false hN0.2.2⟩
  have hN2 : (e = n) = False ∧ (w = n) = False ∧ (m = n) = False := ⟨eq_false fun h => hN0.1 h.symm, eq_false fun h => hN0.2.1 h.symm, eq_false fun h => hN0.2.2 h.symm⟩
  clear nd2
  by_cases hik : i < k
  · obtain ⟨acc, hacc⟩ : ∃ acc, acc = (List.range i).map (pktL s) := ⟨_, rfl⟩
    have hal : acc.length = i := by rw [hacc]; simp
    obtain ⟨b, hb⟩ : ∃ b, b = s.wait.getD i [] := ⟨_, rfl⟩
    have hget : s.wait[i]? = some b := by
      have hi2 : i < s.wait.length := by omega
      simp [hb, List.getD_eq_getElem?_getD, List.getElem?_eq_getElem hi2]
    have hbl : b.length ≤ 65536 := by
      rw [hb]
      have hi2 : i < s.wait.length := by omega
      rw [List.getD_eq_getElem?_getD, List.getElem?_eq_getElem hi2]
      exact hW _ (List.getElem_mem hi2)
    have hq1 : inR ((s.acked + i + 1 : Nat) : Int) := ⟨by omega, by omega⟩
    have hq2 : inR (s.got : Int) := ⟨by omega, by omega⟩
    have c1 := pbytes_c G ((s.acked + i + 1 : Nat) : Int) s.got b hq1 hq2 (by omega)
    have hpl := packB_len ((s.acked + i + 1 : Nat) : Int) s.got b hq1 hq2 (by omega)
    have c2 := Seal_c G s.key (packB ((s.acked + i + 1 : Nat) : Int) s.got b) (by omega)
    have hP : packB ((s.acked + i + 1 : Nat) : Int) s.got b ++ sealB s.key (packB ((s.acked + i + 1 : Nat) : Int) s.got b) = pktL s i := by rw [pktL, ← hb]; rfl
    rw [hP] at c2
    have hnext : (List.range (i + 1)).map (pktL s) = acc ++ [pktL s i] := by rw [range_snoc, hacc]
    rw [← hacc]
    generalize packB ((s.acked + i + 1 : Nat) : Int) s.got b = pb at *
    generalize pktL s i = p at *
    push_cast at c1
    clear hb hP hpl hacc
    repeat' (first
    | (with_reducible apply W_seq_k; intro nx hnx)
    | (with_reducible first | refine wr 7340093 ?_ | refine wd (id := 2) 7340093 1 (.op 0 true (.op 1 true (.op 2 true (.op 3 true (.op 4 true (.op 5 true (.op 6 true (.op 7 true (.op 8 true (.op 9 true (.op 10 true (.op 11 true (.op 12 true (.op 13 true (.op 14 true (.op 15 true (.op 16 true (.done)))))))))))))))))) (by kernel_rfl) ?_ | refine wd (id := 5) 7340093 8 (.op 0 true (.op 1 true (.op 2 true (.op 3 true (.op 4 true (.op 5 true (.op 6 true (.op 7 true (.op 8 true (.op 9 true (.op 10 true (.op 11 true (.op 12 true (.op 13 true (.op 14 true (.op 15 true (.op 16 true (.op 17 true (.op 18 true (.op 19 false (.op 20 false (.op 21 false (.op 22 true (.done)))))))))))))))))))))))) (by kernel_rfl) ?_ | refine wd (id := 8) 7340093 6 (.op 0 true (.op 1 true (.op 2 true (.op 3 true (.op 4 true (.op 5 true (.op 6 true (.op 7 true (.op 8 true (.op 9 true (.op 10 true (.op 11 false (.op 12 false (.op 13 false (.op 14 true (.done)))))))))))))))) (by kernel_rfl) ?_)
    | (with_reducible refine WL_born (by simp) rfl (by simp) ?_; simp only [elemsOf, nl, bir, Nat.reduceAdd, Nat.reduceMul, Nat.reduceSub, Nat.reduceLeDiff, Nat.reduceEqDiff, ↓reduceIte, reduceCtorEq, Nat.reduceLT, Nat.reducePow, Nat.reduceDiv, Nat.reduceMod, Nat.reduceBEq, Int.reduceLT, Int.reduceLE, Int.reduceToNat, Int.reduceAdd, Int.reduceSub, Int.reduceNeg])
    | ((with_reducible first | (apply WL_op; intro nx hnx) | refine Ev_out ?_ | refine wc ?_ | (apply popsD_op; intro nx hnx) | (refine popsD_alt ?_ ?_; intro nx hnx) | (refine pf hnm fun nm hnm => ?_; try simp only [fmb] at hnm) | (refine pborn_im ?_; simp only [elemsOf, nl, bir, Nat.reduceAdd, Nat.reduceMul, Nat.reduceSub, Nat.reduceLeDiff, Nat.reduceEqDiff, ↓reduceIte, reduceCtorEq, Nat.reduceLT, Nat.reducePow, Nat.reduceDiv, Nat.reduceMod, Nat.reduceBEq, Int.reduceLT, Int.reduceLE, Int.reduceToNat, Int.reduceAdd, Int.reduceSub, Int.reduceNeg]) | (refine pmaybe_k ?_; intro bn hbn)); try (simp (maxSteps := 2000000) (disch := omega) only [ev, ↓evp, PV.cells, PV.one, PV.mem?, Value.cells, Nat.reduceAdd, Nat.reduceMul, Nat.reduceSub, Nat.reduceLeDiff, Nat.reduceEqDiff, ↓reduceIte, reduceCtorEq, Nat.reduceLT, Nat.reducePow, Nat.reduceDiv, Nat.reduceMod, Nat.reduceBEq, Int.reduceLT, Int.reduceLE, Int.reduceToNat, Int.reduceAdd, Int.reduceSub, Int.reduceNeg, hnm, Try.tf0, Try.tf1, Try.tf2, Try.tf3, Try.tf4, Try.tf5, Try.tf6, Try.tf22, Try.tf28, Try.tf33, Try.tf35, Try.tf65, Try.tf68, Try.call24, Try.call33, hM, hN, hN2, hget]))
    | ((with_reducible first | apply W_block | apply W_scope | apply WL_nil | apply W_label | apply W_skip | apply W_exit | apply W_ret | apply popsD_done | exact popsD_stop) <;> try simp only [kks, Nat.reduceAdd, Nat.reduceMul, Nat.reduceSub, Nat.reduceLeDiff, Nat.reduceEqDiff, ↓reduceIte, reduceCtorEq, Nat.reduceLT, Nat.reducePow, Nat.reduceDiv, Nat.reduceMod, Nat.reduceBEq, Int.reduceLT, Int.reduceLE, Int.reduceToNat, Int.reduceAdd, Int.reduceSub, Int.reduceNeg])
    | (with_reducible apply pg <;> (intro hc; (try simp only [hcb, Nat.reduceAdd, Nat.reduceMul, Nat.reduceSub, Nat.reduceLeDiff, Nat.reduceEqDiff, ↓reduceIte, reduceCtorEq, Nat.reduceLT, Nat.reducePow, Nat.reduceDiv, Nat.reduceMod, Nat.reduceBEq, Int.reduceLT, Int.reduceLE, Int.reduceToNat, Int.reduceAdd, Int.reduceSub, Int.reduceNeg, ne_eq, forall_const] at hc); first | (exfalso; omega) | exact absurd trivial hc | skip))
    | (with_reducible apply hnx; clear hnx nx)
    | (with_reducible refine And.intro (by omega) ?_)
    | (with_reducible refine And.intro ?_ ?_)
    | (with_reducible refine pe (c1) ?_)
    | (with_reducible refine pe (c2) ?_)
    | (clear hnx nx; with_reducible apply hnx; clear hnx nx)
    | (clear hnx nx; clear hnx nx; with_reducible apply hnx; clear hnx nx))
    all_goals first
      | (exfalso
         omega)
      | skip
    refine hlp _ (k - (i + 1)) _ (by omega) ?_ ⟨nm, i + 1, by omega, rfl, rfl⟩
    rw [hnext]
    refine Wk_fr (by simp only [wkb, Nat.reduceAdd, Nat.reduceMul, Nat.reduceSub, Nat.reduceLeDiff, Nat.reduceEqDiff, ↓reduceIte, reduceCtorEq, Nat.reduceLT, Nat.reducePow, Nat.reduceDiv, Nat.reduceMod, Nat.reduceBEq, Int.reduceLT, Int.reduceLE, Int.reduceToNat, Int.reduceAdd, Int.reduceSub, Int.reduceNeg, List.length_append, List.length_cons, List.length_nil, List.map_append, List.map_cons, List.map_nil]) ?_
    refine ⟨?_, ?_⟩
    · intro x hx
      simp only [List.mem_cons, List.not_mem_nil, or_false] at hx ⊢
      rcases hx with rfl | rfl | rfl | rfl
      · exact .inl (by simp [flat, PV.cells])
      · exact .inr (.inl rfl)
      · exact .inr (.inr (.inl rfl))
      · exact .inr (.inr (.inr rfl))
    · simp [names, hM, hnm]
  · have hi : i = k := by omega
    subst hi
    clear hlp
    have hq2 : inR (s.got : Int) := ⟨by omega, by omega⟩
    have c1 := PCalls.arg1 (rep_pk _ _) (pbytes_c G 0 s.got [] ⟨by omega, by omega⟩ hq2 (by simp))
    have hpl := packB_len 0 s.got [] ⟨by omega, by omega⟩ hq2 (by simp)
    have c2 := Seal_c G s.key (packB 0 s.got []) (by omega)
    rw [← sealP] at c2
    generalize sealP s.key 0 s.got [] = p at *
    generalize packB 0 s.got [] = pb at *
    by_cases hx : i = 0 ∧ s.owing = true
    · obtain ⟨rfl, ho⟩ := hx
      rw [if_pos ⟨rfl, ho⟩] at hfin
      repeat' (first
    | (with_reducible apply W_seq_k; intro nx hnx)
    | (with_reducible first | refine wr 7340093 ?_ | refine wd (id := 2) 7340093 1 (.op 0 true (.op 1 true (.op 2 true (.op 3 true (.op 4 true (.op 5 true (.op 6 true (.op 7 true (.op 8 true (.op 9 true (.op 10 true (.op 11 true (.op 12 true (.op 13 true (.op 14 true (.op 15 true (.op 16 true (.done)))))))))))))))))) (by kernel_rfl) ?_ | refine wd (id := 5) 7340093 8 (.op 0 true (.op 1 true (.op 2 true (.op 3 true (.op 4 true (.op 5 true (.op 6 true (.op 7 true (.op 8 true (.op 9 true (.op 10 true (.op 11 true (.op 12 true (.op 13 true (.op 14 true (.op 15 true (.op 16 true (.op 17 true (.op 18 true (.op 19 false (.op 20 false (.op 21 false (.op 22 true (.done)))))))))))))))))))))))) (by kernel_rfl) ?_ | refine wd (id := 8) 7340093 6 (.op 0 true (.op 1 true (.op 2 true (.op 3 true (.op 4 true (.op 5 true (.op 6 true (.op 7 true (.op 8 true (.op 9 true (.op 10 true (.op 11 false (.op 12 false (.op 13 false (.op 14 true (.done)))))))))))))))) (by kernel_rfl) ?_)
    | (with_reducible refine WL_born (by simp) rfl (by simp) ?_; simp only [elemsOf, nl, bir, Nat.reduceAdd, Nat.reduceMul, Nat.reduceSub, Nat.reduceLeDiff, Nat.reduceEqDiff, ↓reduceIte, reduceCtorEq, Nat.reduceLT, Nat.reducePow, Nat.reduceDiv, Nat.reduceMod, Nat.reduceBEq, Int.reduceLT, Int.reduceLE, Int.reduceToNat, Int.reduceAdd, Int.reduceSub, Int.reduceNeg])
    | ((with_reducible first | (apply WL_op; intro nx hnx) | refine Ev_out ?_ | refine wc ?_ | (apply popsD_op; intro nx hnx) | (refine popsD_alt ?_ ?_; intro nx hnx) | (refine pf hnm fun nm hnm => ?_; try simp only [fmb] at hnm) | (refine pborn_im ?_; simp only [elemsOf, nl, bir, Nat.reduceAdd, Nat.reduceMul, Nat.reduceSub, Nat.reduceLeDiff, Nat.reduceEqDiff, ↓reduceIte, reduceCtorEq, Nat.reduceLT, Nat.reducePow, Nat.reduceDiv, Nat.reduceMod, Nat.reduceBEq, Int.reduceLT, Int.reduceLE, Int.reduceToNat, Int.reduceAdd, Int.reduceSub, Int.reduceNeg]) | (refine pmaybe_k ?_; intro bn hbn)); try (simp (maxSteps := 2000000) (disch := omega) only [ev, ↓evp, PV.cells, PV.one, PV.mem?, Value.cells, Nat.reduceAdd, Nat.reduceMul, Nat.reduceSub, Nat.reduceLeDiff, Nat.reduceEqDiff, ↓reduceIte, reduceCtorEq, Nat.reduceLT, Nat.reducePow, Nat.reduceDiv, Nat.reduceMod, Nat.reduceBEq, Int.reduceLT, Int.reduceLE, Int.reduceToNat, Int.reduceAdd, Int.reduceSub, Int.reduceNeg, hnm, Try.tf0, Try.tf1, Try.tf2, Try.tf3, Try.tf4, Try.tf5, Try.tf6, Try.tf22, Try.tf28, Try.tf33, Try.tf35, Try.tf65, Try.tf68, Try.call24, Try.call33, hM, hN, hN2, ho, List.length_nil, List.range_zero, List.map_nil]))
    | ((with_reducible first | apply W_block | apply W_scope | apply WL_nil | apply W_label | apply W_skip | apply W_exit | apply W_ret | apply popsD_done | exact popsD_stop) <;> try simp only [kks, Nat.reduceAdd, Nat.reduceMul, Nat.reduceSub, Nat.reduceLeDiff, Nat.reduceEqDiff, ↓reduceIte, reduceCtorEq, Nat.reduceLT, Nat.reducePow, Nat.reduceDiv, Nat.reduceMod, Nat.reduceBEq, Int.reduceLT, Int.reduceLE, Int.reduceToNat, Int.reduceAdd, Int.reduceSub, Int.reduceNeg])
    | (with_reducible apply pg <;> (intro hc; (try simp only [hcb, Nat.reduceAdd, Nat.reduceMul, Nat.reduceSub, Nat.reduceLeDiff, Nat.reduceEqDiff, ↓reduceIte, reduceCtorEq, Nat.reduceLT, Nat.reducePow, Nat.reduceDiv, Nat.reduceMod, Nat.reduceBEq, Int.reduceLT, Int.reduceLE, Int.reduceToNat, Int.reduceAdd, Int.reduceSub, Int.reduceNeg, ne_eq, forall_const] at hc); first | (exfalso; omega) | exact absurd trivial hc | skip))
    | (with_reducible apply hnx; clear hnx nx)
    | (with_reducible refine And.intro (by omega) ?_)
    | (with_reducible refine And.intro ?_ ?_)
    | (with_reducible refine pe (c1) ?_)
    | (with_reducible refine pe (c2) ?_)
    | (clear hnx nx; with_reducible apply hnx; clear hnx nx)
    | (clear hnx nx; clear hnx nx; with_reducible apply hnx; clear hnx nx))
      all_goals first
        | exact absurd trivial hc
        | (exfalso
           omega)
        | (refine hfin _ _ (Fin_ret1 rfl (H := (nm, ⟨33, true, 1, [p].map pl⟩) :: endO e w m { s with owing := false }) ⟨?_, ?_⟩ ⟨nm, ⟨of_eq_false hnm.1.1, of_eq_false hnm.2.1.1, of_eq_false hnm.2.2.1⟩, ?_, rfl⟩)
           · intro x hx
             simp only [List.mem_cons, List.not_mem_nil, or_false] at hx ⊢
             rcases hx with rfl | rfl | rfl | rfl
             · exact .inl (by simp [flat, PV.cells])
             · exact .inr (.inl rfl)
             · exact .inr (.inr (.inl rfl))
             · exact .inr (.inr (.inr rfl))
           · simp [names, hM, hnm]
           · simp only [fr_getD_cons, Nat.reduceEqDiff, Nat.reduceLT, ↓reduceIte]
             rfl)
    · rw [if_neg hx] at hfin
      obtain ⟨acc, hacc⟩ : ∃ acc, acc = (List.range i).map (pktL s) := ⟨_, rfl⟩
      have hal : acc.length = i := by rw [hacc]; simp
      rw [← hacc] at hfin ⊢
      repeat' (first
    | (with_reducible apply W_seq_k; intro nx hnx)
    | (with_reducible first | refine wr 7340093 ?_ | refine wd (id := 2) 7340093 1 (.op 0 true (.op 1 true (.op 2 true (.op 3 true (.op 4 true (.op 5 true (.op 6 true (.op 7 true (.op 8 true (.op 9 true (.op 10 true (.op 11 true (.op 12 true (.op 13 true (.op 14 true (.op 15 true (.op 16 true (.done)))))))))))))))))) (by kernel_rfl) ?_ | refine wd (id := 5) 7340093 8 (.op 0 true (.op 1 true (.op 2 true (.op 3 true (.op 4 true (.op 5 true (.op 6 true (.op 7 true (.op 8 true (.op 9 true (.op 10 true (.op 11 true (.op 12 true (.op 13 true (.op 14 true (.op 15 true (.op 16 true (.op 17 true (.op 18 true (.op 19 false (.op 20 false (.op 21 false (.op 22 true (.done)))))))))))))))))))))))) (by kernel_rfl) ?_ | refine wd (id := 8) 7340093 6 (.op 0 true (.op 1 true (.op 2 true (.op 3 true (.op 4 true (.op 5 true (.op 6 true (.op 7 true (.op 8 true (.op 9 true (.op 10 true (.op 11 false (.op 12 false (.op 13 false (.op 14 true (.done)))))))))))))))) (by kernel_rfl) ?_)
    | (with_reducible refine WL_born (by simp) rfl (by simp) ?_; simp only [elemsOf, nl, bir, Nat.reduceAdd, Nat.reduceMul, Nat.reduceSub, Nat.reduceLeDiff, Nat.reduceEqDiff, ↓reduceIte, reduceCtorEq, Nat.reduceLT, Nat.reducePow, Nat.reduceDiv, Nat.reduceMod, Nat.reduceBEq, Int.reduceLT, Int.reduceLE, Int.reduceToNat, Int.reduceAdd, Int.reduceSub, Int.reduceNeg])
    | ((with_reducible first | (apply WL_op; intro nx hnx) | refine Ev_out ?_ | refine wc ?_ | (apply popsD_op; intro nx hnx) | (refine popsD_alt ?_ ?_; intro nx hnx) | (refine pf hnm fun nm hnm => ?_; try simp only [fmb] at hnm) | (refine pborn_im ?_; simp only [elemsOf, nl, bir, Nat.reduceAdd, Nat.reduceMul, Nat.reduceSub, Nat.reduceLeDiff, Nat.reduceEqDiff, ↓reduceIte, reduceCtorEq, Nat.reduceLT, Nat.reducePow, Nat.reduceDiv, Nat.reduceMod, Nat.reduceBEq, Int.reduceLT, Int.reduceLE, Int.reduceToNat, Int.reduceAdd, Int.reduceSub, Int.reduceNeg]) | (refine pmaybe_k ?_; intro bn hbn)); try (simp (maxSteps := 2000000) (disch := omega) only [ev, ↓evp, PV.cells, PV.one, PV.mem?, Value.cells, Nat.reduceAdd, Nat.reduceMul, Nat.reduceSub, Nat.reduceLeDiff, Nat.reduceEqDiff, ↓reduceIte, reduceCtorEq, Nat.reduceLT, Nat.reducePow, Nat.reduceDiv, Nat.reduceMod, Nat.reduceBEq, Int.reduceLT, Int.reduceLE, Int.reduceToNat, Int.reduceAdd, Int.reduceSub, Int.reduceNeg, hnm, Try.tf0, Try.tf1, Try.tf2, Try.tf3, Try.tf4, Try.tf5, Try.tf6, Try.tf22, Try.tf28, Try.tf33, Try.tf35, Try.tf65, Try.tf68, Try.call24, Try.call33, hM, hN, hN2]))
    | ((with_reducible first | apply W_block | apply W_scope | apply WL_nil | apply W_label | apply W_skip | apply W_exit | apply W_ret | apply popsD_done | exact popsD_stop) <;> try simp only [kks, Nat.reduceAdd, Nat.reduceMul, Nat.reduceSub, Nat.reduceLeDiff, Nat.reduceEqDiff, ↓reduceIte, reduceCtorEq, Nat.reduceLT, Nat.reducePow, Nat.reduceDiv, Nat.reduceMod, Nat.reduceBEq, Int.reduceLT, Int.reduceLE, Int.reduceToNat, Int.reduceAdd, Int.reduceSub, Int.reduceNeg])
    | (with_reducible apply pg <;> (intro hc; (try simp only [hcb, Nat.reduceAdd, Nat.reduceMul, Nat.reduceSub, Nat.reduceLeDiff, Nat.reduceEqDiff, ↓reduceIte, reduceCtorEq, Nat.reduceLT, Nat.reducePow, Nat.reduceDiv, Nat.reduceMod, Nat.reduceBEq, Int.reduceLT, Int.reduceLE, Int.reduceToNat, Int.reduceAdd, Int.reduceSub, Int.reduceNeg, ne_eq, forall_const] at hc); first | (exfalso; omega) | exact absurd trivial hc | skip))
    | (with_reducible apply hnx; clear hnx nx)
    | (with_reducible refine And.intro (by omega) ?_)
    | (with_reducible refine And.intro ?_ ?_)
    | (with_reducible refine pe (c1) ?_)
    | (with_reducible refine pe (c2) ?_)
    | (clear hnx nx; with_reducible apply hnx; clear hnx nx)
    | (clear hnx nx; clear hnx nx; with_reducible apply hnx; clear hnx nx))
      all_goals first
        | (exfalso
           omega)
        | skip
      all_goals first
        | exact absurd ⟨by omega, by assumption⟩ hx
        | (refine hfin _ _ (Fin_ret1 rfl (H := (n, ⟨33, true, 1, acc.map pl⟩) :: endO e w m { s with owing := false }) (Sub_refl (by simp [names, hM, hN, hN2])) ⟨n, hN0, ?_, rfl⟩)
           simp only [fr_getD_cons, Nat.reduceEqDiff, Nat.reduceLT, ↓reduceIte])
theorem out_c (G : Globs) (e : Int) (s : LE) (hs : OkE s) (hwin : s.win ≤ 1000) (hW : ∀ b ∈ s.wait, b.length ≤ 65536) (Hin : Heap) (hH : IsEnd e s Hin) :
    PCalls Try.prog G 13 [.ptr e 0] Hin (fun res H => res = .list 1 ((outL s).1.map pl) ∧ IsEnd e (outL s).2 H) := by
  obtain ⟨w, m, rfl⟩ := hH
  refine (out_r G e w m s hs hwin hW).wxs ?_
  rintro _ _ ⟨n, ⟨h1, h2, h3⟩, rfl, rfl⟩
  have hl : (outL s).1.length = ((outL s).1.map pl).length := by rw [List.length_map]
  rw [hl]
  exact Wxs_row (by simp [names, h1, h2, h3]) (end_frz h1 h2 h3) ⟨_, rfl, rfl, w, m, rfl⟩
end Go.PM
