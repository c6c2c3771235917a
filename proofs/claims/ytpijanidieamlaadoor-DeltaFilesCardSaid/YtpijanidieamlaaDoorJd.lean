/- Joined texts (HWm HWn HDa HDs HDi HDt HDj HDk HDb HDg HDm HDv HDx HDd HDu HFb HFc HFd HFe HFf HFg): the machine, the contracts, the laws. Conditions: none but those that each names. -/
import Derived.Test.YtpijanidieamlaaDoorJc
set_option linter.unusedSimpArgs false
set_option linter.unusedVariables false
namespace Go.PM
open Go.Proofs
attribute [local irreducible] W PCalls pcall pcallI WL
theorem gS_le (b : List UInt8) (hb : (b.length : Int) ≤ 4611686018427387904) : (gS b).2.1 ≤ b.length := by
  have h := gC_ok (size := 1) (by omega) (b := b)
  unfold gS
  split
  · simp
  · rename_i h1
    have h2 := h (by omega)
    simp only
    omega
theorem gS_e (b : List UInt8) (hb : (b.length : Int) ≤ 4611686018427387904) : 0 ≤ (gS b).2.2 ∧ (gS b).2.2 ≤ 3 := by
  have h := gC_e 1 b hb
  unfold gS
  split
  · exact h
  · exact ⟨by simp, by simp⟩
set_option maxRecDepth 100000 in
set_option maxHeartbeats 8000000 in
theorem getStrs_r (G : Globs) (b : List UInt8) (hb : (b.length : Int) ≤ 4294967296) :
    PCalls Tryd.prog G 63 [.list 1 (b.map pbyte)] [] (LR (List.map pstr) 9 1 (gLs gS 1 b)) := by
  (refine PCalls_f Tryd.func63 rfl Tryd.ntmps63 Tryd.results63 (by simp) fun fin hfin => ?_; have hnm : True := trivial; simp only [ev, simprocAttr])
  repeat' (first
    | (with_reducible apply W_seq_k; intro nx hnx)
    | (with_reducible first | refine wr 6295549 ?_)
    | ((with_reducible first | (apply WL_op; intro nx hnx) | refine Ev_out ?_ | refine wc ?_ | (refine pf hnm fun nm hnm => ?_; try simp only [fmb] at hnm) | (refine pm hnm fun nm hnm => ?_; try simp only [fmb] at hnm) | (refine pmaybe_k ?_; intro bn hbn)); try (simp (maxSteps := 2000000) (disch := omega) only [ev, ↓evp, PV.cells, PV.one, PV.mem?, Value.cells, simprocAttr, hnm, Tryd.tf0, Tryd.tf1, Tryd.tf2, Tryd.tf3, Tryd.tf4, Tryd.tf5, Tryd.tf9, Tryd.tf24, Tryd.tf27, Tryd.tf28, Tryd.tf68, Tryd.tf106, Tryd.call32, Tryd.call55]))
    | ((with_reducible first | apply W_block | apply W_scope | apply WL_nil | apply W_label | apply W_skip | apply W_exit | apply W_ret) <;> try simp only [kks, simprocAttr])
    | (with_reducible apply pg <;> (intro hc; (try simp only [hcb, simprocAttr, ne_eq, forall_const] at hc); first | (exfalso; omega) | exact absurd trivial hc | skip))
    | (with_reducible apply hnx; clear hnx nx)
    | (with_reducible refine And.intro (by omega) ?_)
    | (with_reducible refine And.intro ?_ ?_)
    | (clear hnx nx; with_reducible apply hnx; clear hnx nx)
    | (clear hnx nx; clear hnx nx; with_reducible apply hnx; clear hnx nx))
  refine pcall_k (count_c G b 1 (by omega) (by omega) (by omega)) ?_
  rintro _ _ ⟨⟨n, u, rfl, hok⟩, rfl⟩ -
  have he := gC_e 1 b (by omega)
  have hgok := gC_ok (size := 1) (by omega) (b := b)
  have hgS : gLs gS 1 b = if (gcT 1 b).2.2 ≠ 0 then ([], 0, (gcT 1 b).2.2) else comb [] (gcT 1 b).2.1 (gL gS (gcT 1 b).1.toNat (b.drop (gcT 1 b).2.1)) := rfl
  generalize gLs gS 1 b = X at hfin hgS
  generalize gcT 1 b = x at hok he hgok hgS ⊢
  obtain ⟨k, a, e⟩ := x
  simp only at hok he hgok hgS ⊢
  by_cases hez : e = 0
  · subst hez
    obtain ⟨h1, h2⟩ := hok rfl
    obtain ⟨h3, h4, h5, h6, h7⟩ := hgok rfl
    clear hok hgok
    obtain ⟨n, rfl⟩ : ∃ k' : Nat, k = k' := ⟨k.toNat, by omega⟩
    subst h1
    subst h2
    rw [if_neg (by simp), Int.toNat_natCast] at hgS
    refine Ev_in ?_
    repeat' (first
    | (with_reducible apply W_seq_k; intro nx hnx)
    | (with_reducible first | refine wr 6295549 ?_)
    | ((with_reducible first | (apply WL_op; intro nx hnx) | refine Ev_out ?_ | refine wc ?_ | (refine pf hnm fun nm hnm => ?_; try simp only [fmb] at hnm) | (refine pm hnm fun nm hnm => ?_; try simp only [fmb] at hnm) | (refine pmaybe_k ?_; intro bn hbn)); try (simp (maxSteps := 2000000) (disch := omega) only [ev, ↓evp, PV.cells, PV.one, PV.mem?, Value.cells, simprocAttr, hnm, Tryd.tf0, Tryd.tf1, Tryd.tf2, Tryd.tf3, Tryd.tf4, Tryd.tf5, Tryd.tf9, Tryd.tf24, Tryd.tf27, Tryd.tf28, Tryd.tf68, Tryd.tf106, Tryd.call32, Tryd.call55]))
    | ((with_reducible first | apply W_block | apply W_scope | apply WL_nil | apply W_label | apply W_skip | apply W_exit | apply W_ret) <;> try simp only [kks, simprocAttr])
    | (with_reducible apply pg <;> (intro hc; (try simp only [hcb, simprocAttr, ne_eq, forall_const] at hc); first | (exfalso; omega) | exact absurd trivial hc | skip))
    | (with_reducible apply hnx; clear hnx nx)
    | (with_reducible refine And.intro (by omega) ?_)
    | (with_reducible refine And.intro ?_ ?_)
    | (clear hnx nx; with_reducible apply hnx; clear hnx nx)
    | (clear hnx nx; clear hnx nx; with_reducible apply hnx; clear hnx nx))
    all_goals first
      | (exfalso
         omega)
      | skip
    refine W_adopt_f 8 9 1 (by simp only [fr_getD_cons, Nat.reduceEqDiff, Nat.reduceLT, ↓reduceIte]) fun N0 _ => ?_
    refine W_loop_k (fun z τ => ∃ (pre : List (List UInt8)) (a : Nat) (N : Int), pre.length ≤ n ∧ z = n - pre.length ∧ a ≤ b.length ∧ X = comb pre a (gL gS (n - pre.length) (b.drop a)) ∧ τ = ⟨fr 45 [(0, .list 1 (b.map pbyte)), (5, pint .i64 n), (6, pint .i64 a), (8, .row N 1 pre.length), (21, pint .i64 n), (22, pint .i64 pre.length)], [(N, ⟨9, true, 1, pre.map pstr⟩)]⟩) n ⟨fr 45 [(0, .list 1 (b.map pbyte)), (5, pint .i64 n), (6, pint .i64 a), (8, .row N0 1 0), (21, pint .i64 n), (22, pint .i64 (0 : Nat))], [(N0, ⟨9, true, 1, []⟩)]⟩ (by exact Wk_fr (by simp only [wkb, simprocAttr]) ⟨by simp, by simp [names]⟩) ⟨[], a, N0, by simp, by simp, h5, hgS, rfl⟩ ?_
    clear hgS
    rintro z τ ⟨pre, a, N, hp, rfl, ha, hX, rfl⟩ lp hlp
    by_cases hi : pre.length < n
    · obtain ⟨c, hcd⟩ : ∃ c, c = b.drop a := ⟨_, rfl⟩
      have hcl : c.length + a = b.length := by rw [hcd, List.length_drop]; omega
      have hgl := gS_le c (by omega)
      have hge := gS_e c (by omega)
      skip
      have hc1 := comb_err gS pre a (n - (pre.length + 1)) c
      have hc2 := comb_ok gS pre a (n - (pre.length + 1)) c
      rw [← hcd, show n - pre.length = n - (pre.length + 1) + 1 by omega] at hX
      rw [← hX] at hc1 hc2
      have hcm : List.drop a (List.take b.length (b.map pbyte)) = c.map pbyte := by
        rw [List.take_of_length_le (by simp), hcd, List.map_drop]
      repeat' (first
    | (with_reducible apply W_seq_k; intro nx hnx)
    | (with_reducible first | refine wr 6295549 ?_)
    | ((with_reducible first | (apply WL_op; intro nx hnx) | refine Ev_out ?_ | refine wc ?_ | (refine pf hnm fun nm hnm => ?_; try simp only [fmb] at hnm) | (refine pm hnm fun nm hnm => ?_; try simp only [fmb] at hnm) | (refine pmaybe_k ?_; intro bn hbn)); try (simp (maxSteps := 2000000) (disch := omega) only [ev, ↓evp, PV.cells, PV.one, PV.mem?, Value.cells, simprocAttr, hnm, Tryd.tf0, Tryd.tf1, Tryd.tf2, Tryd.tf3, Tryd.tf4, Tryd.tf5, Tryd.tf9, Tryd.tf24, Tryd.tf27, Tryd.tf28, Tryd.tf68, Tryd.tf106, Tryd.call32, Tryd.call55, hcm]))
    | ((with_reducible first | apply W_block | apply W_scope | apply WL_nil | apply W_label | apply W_skip | apply W_exit | apply W_ret) <;> try simp only [kks, simprocAttr])
    | (with_reducible apply pg <;> (intro hc; (try simp only [hcb, simprocAttr, ne_eq, forall_const] at hc); first | (exfalso; omega) | exact absurd trivial hc | skip))
    | (with_reducible apply hnx; clear hnx nx)
    | (with_reducible refine And.intro (by omega) ?_)
    | (with_reducible refine And.intro ?_ ?_)
    | (clear hnx nx; with_reducible apply hnx; clear hnx nx)
    | (clear hnx nx; clear hnx nx; with_reducible apply hnx; clear hnx nx))
      all_goals first
        | (exfalso
           omega)
        | skip
      refine pcall_k (getBytes_c G c (by omega)) ?_
      rintro _ _ ⟨rfl, rfl⟩ -
      generalize gS c = y at hgl hge hc1 hc2 ⊢
      obtain ⟨x, u, e⟩ := y
      simp only at hgl hge hc1 hc2 ⊢
      refine Ev_in ?_
      repeat' (first
    | (with_reducible apply W_seq_k; intro nx hnx)
    | (with_reducible first | refine wr 6295549 ?_)
    | ((with_reducible first | (apply WL_op; intro nx hnx) | refine Ev_out ?_ | refine wc ?_ | (refine pf hnm fun nm hnm => ?_; try simp only [fmb] at hnm) | (refine pm hnm fun nm hnm => ?_; try simp only [fmb] at hnm) | (refine pmaybe_k ?_; intro bn hbn)); try (simp (maxSteps := 2000000) (disch := omega) only [ev, ↓evp, PV.cells, PV.one, PV.mem?, Value.cells, simprocAttr, hnm, Tryd.tf0, Tryd.tf1, Tryd.tf2, Tryd.tf3, Tryd.tf4, Tryd.tf5, Tryd.tf9, Tryd.tf24, Tryd.tf27, Tryd.tf28, Tryd.tf68, Tryd.tf106, Tryd.call32, Tryd.call55]))
    | ((with_reducible first | apply W_block | apply W_scope | apply WL_nil | apply W_label | apply W_skip | apply W_exit | apply W_ret) <;> try simp only [kks, simprocAttr])
    | (with_reducible apply pg <;> (intro hc; (try simp only [hcb, simprocAttr, ne_eq, forall_const] at hc); first | (exfalso; omega) | exact absurd trivial hc | skip))
    | (with_reducible apply hnx; clear hnx nx)
    | (with_reducible refine And.intro (by omega) ?_)
    | (with_reducible refine And.intro ?_ ?_)
    | (clear hnx nx; with_reducible apply hnx; clear hnx nx)
    | (clear hnx nx; clear hnx nx; with_reducible apply hnx; clear hnx nx))
      all_goals first
        | (exfalso
           omega)
        | (have hX2 := hc1 hc
           refine hfin _ _ (Fin_ret3 rfl rfl rfl (Sub_nil _) ?_); simp only [cob, simprocAttr]
           subst hX2
           exact .inl ⟨hc, rfl, by trivial⟩)
        | (have hX2 := hc2 hc
           refine hlp _ (n - (pre.length + 1)) _ (by omega) ?_ ⟨pre ++ [x], a + u, nm, by simp; omega, by simp, by omega, ?_, rfl⟩
           · refine Wk_fr (by simp only [wkb, simprocAttr, List.length_append, List.length_cons, List.length_nil, Nat.zero_add]) ?_
             refine ⟨fun x hx => ?_, by simp [names]⟩
             simp only [List.mem_cons, List.not_mem_nil, or_false] at hx ⊢
             subst hx
             left
             rw [List.map_append]
             rfl
           · rw [hX2, hcd, List.drop_drop, List.length_append]
             rfl)
        | skip
    · rw [show n - pre.length = 0 by omega, comb_nil] at hX
      repeat' (first
    | (with_reducible apply W_seq_k; intro nx hnx)
    | (with_reducible first | refine wr 6295549 ?_)
    | ((with_reducible first | (apply WL_op; intro nx hnx) | refine Ev_out ?_ | refine wc ?_ | (refine pf hnm fun nm hnm => ?_; try simp only [fmb] at hnm) | (refine pm hnm fun nm hnm => ?_; try simp only [fmb] at hnm) | (refine pmaybe_k ?_; intro bn hbn)); try (simp (maxSteps := 2000000) (disch := omega) only [ev, ↓evp, PV.cells, PV.one, PV.mem?, Value.cells, simprocAttr, hnm, Tryd.tf0, Tryd.tf1, Tryd.tf2, Tryd.tf3, Tryd.tf4, Tryd.tf5, Tryd.tf9, Tryd.tf24, Tryd.tf27, Tryd.tf28, Tryd.tf68, Tryd.tf106, Tryd.call32, Tryd.call55]))
    | ((with_reducible first | apply W_block | apply W_scope | apply WL_nil | apply W_label | apply W_skip | apply W_exit | apply W_ret) <;> try simp only [kks, simprocAttr])
    | (with_reducible apply pg <;> (intro hc; (try simp only [hcb, simprocAttr, ne_eq, forall_const] at hc); first | (exfalso; omega) | exact absurd trivial hc | skip))
    | (with_reducible apply hnx; clear hnx nx)
    | (with_reducible refine And.intro (by omega) ?_)
    | (with_reducible refine And.intro ?_ ?_)
    | (clear hnx nx; with_reducible apply hnx; clear hnx nx)
    | (clear hnx nx; clear hnx nx; with_reducible apply hnx; clear hnx nx))
      all_goals first
        | (exfalso
           omega)
        | skip
      refine hfin _ _ (Fin_ret3 rfl rfl rfl (Sub_refl (by simp [names])) ?_)
      simp only [List.getD_cons_zero, List.getD_cons_succ, fr_getD_cons, fr_getD_nil, Nat.reduceEqDiff, Nat.reduceLT, ↓reduceIte]
      subst hX
      exact .inr ⟨rfl, N, rfl, rfl⟩
  · rw [if_pos hez] at hgS
    refine Ev_in ?_
    repeat' (first
    | (with_reducible apply W_seq_k; intro nx hnx)
    | (with_reducible first | refine wr 6295549 ?_)
    | ((with_reducible first | (apply WL_op; intro nx hnx) | refine Ev_out ?_ | refine wc ?_ | (refine pf hnm fun nm hnm => ?_; try simp only [fmb] at hnm) | (refine pm hnm fun nm hnm => ?_; try simp only [fmb] at hnm) | (refine pmaybe_k ?_; intro bn hbn)); try (simp (maxSteps := 2000000) (disch := omega) only [ev, ↓evp, PV.cells, PV.one, PV.mem?, Value.cells, simprocAttr, hnm, Tryd.tf0, Tryd.tf1, Tryd.tf2, Tryd.tf3, Tryd.tf4, Tryd.tf5, Tryd.tf9, Tryd.tf24, Tryd.tf27, Tryd.tf28, Tryd.tf68, Tryd.tf106, Tryd.call32, Tryd.call55]))
    | ((with_reducible first | apply W_block | apply W_scope | apply WL_nil | apply W_label | apply W_skip | apply W_exit | apply W_ret) <;> try simp only [kks, simprocAttr])
    | (with_reducible apply pg <;> (intro hc; (try simp only [hcb, simprocAttr, ne_eq, forall_const] at hc); first | (exfalso; omega) | exact absurd trivial hc | skip))
    | (with_reducible apply hnx; clear hnx nx)
    | (with_reducible refine And.intro (by omega) ?_)
    | (with_reducible refine And.intro ?_ ?_)
    | (clear hnx nx; with_reducible apply hnx; clear hnx nx)
    | (clear hnx nx; clear hnx nx; with_reducible apply hnx; clear hnx nx))
    all_goals first
      | (exfalso
         omega)
      | skip
    refine hfin _ _ (Fin_ret3 rfl rfl rfl (Sub_nil _) ?_); simp only [cob, simprocAttr]
    subst hgS
    exact .inl ⟨hez, rfl, by trivial⟩
theorem getStrs_c (G : Globs) (b : List UInt8) (hb : (b.length : Int) ≤ 4294967296) :
    PCalls Tryd.prog G 63 [.list 1 (b.map pbyte)] [] (fun res H => res = .tuple [.list 1 ((gLs gS 1 b).1.map pstr), pint .i64 (gLs gS 1 b).2.1, pint .i64 (gLs gS 1 b).2.2] ∧ H = []) :=
  LR.frz (getStrs_r G b hb) (by omega) (gLs_norm _ _ _) (by simp) (elems_one _ _)
end Go.PM

namespace Go.PM
open Go.Proofs
attribute [local irreducible] W PCalls pcall pcallI WL
/-- A digest at the beginning. -/
def gD (b : List UInt8) : List UInt8 × Nat × Int := (b.take 16, 16, 0)
theorem catD_snoc (pre : List (List UInt8)) (d : List UInt8) : catDw (pre ++ [d]) = catDw pre ++ d.map pbyte := by simp [catDw]
set_option maxRecDepth 100000 in
set_option maxHeartbeats 8000000 in
theorem getDigs_r (G : Globs) (b : List UInt8) (hb : (b.length : Int) ≤ 4294967296) :
    PCalls Tryd.prog G 61 [.list 1 (b.map pbyte)] [] (fun res H => LR catDw 37 16 (gLs gD 16 b) res H) := by
  (refine PCalls_f Tryd.func61 rfl Tryd.ntmps61 Tryd.results61 (by simp) fun fin hfin => ?_; have hnm : True := trivial; simp only [ev, simprocAttr])
  repeat' (first
    | (with_reducible apply W_seq_k; intro nx hnx)
    | (with_reducible first | refine wr 786941 ?_)
    | ((with_reducible first | (apply WL_op; intro nx hnx) | refine Ev_out ?_ | refine wc ?_ | (refine pf hnm fun nm hnm => ?_; try simp only [fmb] at hnm) | (refine pm hnm fun nm hnm => ?_; try simp only [fmb] at hnm) | (refine pmaybe_k ?_; intro bn hbn)); try (simp (maxSteps := 2000000) (disch := omega) only [ev, ↓evp, PV.cells, PV.one, PV.mem?, Value.cells, simprocAttr, hnm, Tryd.tf0, Tryd.tf1, Tryd.tf2, Tryd.tf3, Tryd.tf4, Tryd.tf5, Tryd.tf27, Tryd.tf28, Tryd.tf37, Tryd.tf58, Tryd.tf106, Tryd.call55]))
    | ((with_reducible first | apply W_block | apply W_scope | apply WL_nil | apply W_label | apply W_skip | apply W_exit | apply W_ret) <;> try simp only [kks, simprocAttr])
    | (with_reducible apply pg <;> (intro hc; (try simp only [hcb, simprocAttr, ne_eq, forall_const] at hc); first | (exfalso; omega) | exact absurd trivial hc | skip))
    | (with_reducible apply hnx; clear hnx nx)
    | (with_reducible refine And.intro (by omega) ?_)
    | (with_reducible refine And.intro ?_ ?_)
    | (clear hnx nx; with_reducible apply hnx; clear hnx nx)
    | (clear hnx nx; clear hnx nx; with_reducible apply hnx; clear hnx nx))
  refine pcall_k (count_c G b 16 (by omega) (by omega) (by omega)) ?_
  rintro _ _ ⟨⟨n, u, rfl, hok⟩, rfl⟩ -
  have he := gC_e 16 b (by omega)
  have hgok := gC_ok (size := 16) (by omega) (b := b)
  have hgS : gLs gD 16 b = if (gcT 16 b).2.2 ≠ 0 then ([], 0, (gcT 16 b).2.2) else comb [] (gcT 16 b).2.1 (gL gD (gcT 16 b).1.toNat (b.drop (gcT 16 b).2.1)) := rfl
  generalize gLs gD 16 b = X at hfin hgS
  generalize gcT 16 b = x at hok he hgok hgS ⊢
  obtain ⟨k, a, e⟩ := x
  simp only at hok he hgok hgS ⊢
  by_cases hez : e = 0
  · subst hez
    obtain ⟨h1, h2⟩ := hok rfl
    obtain ⟨h3, h4, h5, h6, h7⟩ := hgok rfl
    clear hok hgok
    obtain ⟨n, rfl⟩ : ∃ k' : Nat, k = k' := ⟨k.toNat, by omega⟩
    subst h1
    subst h2
    rw [if_neg (by simp), Int.toNat_natCast] at hgS
    refine Ev_in ?_
    repeat' (first
    | (with_reducible apply W_seq_k; intro nx hnx)
    | (with_reducible first | refine wr 786941 ?_)
    | ((with_reducible first | (apply WL_op; intro nx hnx) | refine Ev_out ?_ | refine wc ?_ | (refine pf hnm fun nm hnm => ?_; try simp only [fmb] at hnm) | (refine pm hnm fun nm hnm => ?_; try simp only [fmb] at hnm) | (refine pmaybe_k ?_; intro bn hbn)); try (simp (maxSteps := 2000000) (disch := omega) only [ev, ↓evp, PV.cells, PV.one, PV.mem?, Value.cells, simprocAttr, hnm, Tryd.tf0, Tryd.tf1, Tryd.tf2, Tryd.tf3, Tryd.tf4, Tryd.tf5, Tryd.tf27, Tryd.tf28, Tryd.tf37, Tryd.tf58, Tryd.tf106, Tryd.call55]))
    | ((with_reducible first | apply W_block | apply W_scope | apply WL_nil | apply W_label | apply W_skip | apply W_exit | apply W_ret) <;> try simp only [kks, simprocAttr])
    | (with_reducible apply pg <;> (intro hc; (try simp only [hcb, simprocAttr, ne_eq, forall_const] at hc); first | (exfalso; omega) | exact absurd trivial hc | skip))
    | (with_reducible apply hnx; clear hnx nx)
    | (with_reducible refine And.intro (by omega) ?_)
    | (with_reducible refine And.intro ?_ ?_)
    | (clear hnx nx; with_reducible apply hnx; clear hnx nx)
    | (clear hnx nx; clear hnx nx; with_reducible apply hnx; clear hnx nx))
    all_goals first
      | (exfalso
         omega)
      | skip
    refine W_adopt_f 8 37 16 (by simp only [fr_getD_cons, Nat.reduceEqDiff, Nat.reduceLT, ↓reduceIte]) fun N0 _ => ?_
    refine W_loop_k (fun z τ => ∃ (pre : List (List UInt8)) (a : Nat) (N : Int), pre.length ≤ n ∧ z = n - pre.length ∧ a + (n - pre.length) * 16 ≤ b.length ∧ (∀ d ∈ pre, d.length = 16) ∧ X = comb pre a (gL gD (n - pre.length) (b.drop a)) ∧ τ = ⟨fr 36 [(0, .list 1 (b.map pbyte)), (6, pint .i64 a), (8, .row N 16 pre.length), (18, pint .i64 n), (19, pint .i64 pre.length)], [(N, ⟨37, true, 16, catDw pre⟩)]⟩) n ⟨fr 36 [(0, .list 1 (b.map pbyte)), (6, pint .i64 a), (8, .row N0 16 0), (18, pint .i64 n), (19, pint .i64 (0 : Nat))], [(N0, ⟨37, true, 16, []⟩)]⟩ (by exact Wk_fr (by simp only [wkb, simprocAttr]) ⟨by simp, by simp [names]⟩) ⟨[], a, N0, by simp, by simp, by simp only [List.length_nil]; omega, by simp, hgS, rfl⟩ ?_
    clear hgS
    rintro z τ ⟨pre, a, N, hp, rfl, ha, hpd, hX, rfl⟩ lp hlp
    by_cases hi : pre.length < n
    · obtain ⟨d, hd⟩ : ∃ d, d = (b.drop a).take 16 := ⟨_, rfl⟩
      have hd16 : d.length = 16 := by rw [hd, List.length_take, List.length_drop]; omega
      have hc2 := comb_ok gD pre a (n - (pre.length + 1)) (b.drop a) rfl
      rw [show n - pre.length = n - (pre.length + 1) + 1 by omega, hc2] at hX
      have hgd : gD (b.drop a) = (d, 16, 0) := by rw [gD, hd]
      rw [hgd] at hX
      have hcm : List.drop a (List.take (a + 16) (b.map pbyte)) = d.map pbyte := by
        rw [hd, List.map_take, List.map_drop, List.drop_take, show a + 16 - a = 16 by omega]
      have ht : ((a : Int) + 16).toNat = a + 16 := by omega
      have ht16 : List.take 16 (d.map pbyte) = d.map pbyte := List.take_of_length_le (by simp [hd16])
      have h1s := all_one_pbyte d
      have hcl := catDw_len pre hpd
      repeat' (first
    | (with_reducible apply W_seq_k; intro nx hnx)
    | (with_reducible first | refine wr 786941 ?_)
    | ((with_reducible first | (apply WL_op; intro nx hnx) | refine Ev_out ?_ | refine wc ?_ | (refine pf hnm fun nm hnm => ?_; try simp only [fmb] at hnm) | (refine pm hnm fun nm hnm => ?_; try simp only [fmb] at hnm) | (refine pmaybe_k ?_; intro bn hbn)); try (simp (maxSteps := 2000000) (disch := omega) only [ev, ↓evp, PV.cells, PV.one, PV.mem?, Value.cells, simprocAttr, hnm, Tryd.tf0, Tryd.tf1, Tryd.tf2, Tryd.tf3, Tryd.tf4, Tryd.tf5, Tryd.tf27, Tryd.tf28, Tryd.tf37, Tryd.tf58, Tryd.tf106, Tryd.call55, ht, hcm, hd16, flat_pb, ht16, h1s, hcl]))
    | ((with_reducible first | apply W_block | apply W_scope | apply WL_nil | apply W_label | apply W_skip | apply W_exit | apply W_ret) <;> try simp only [kks, simprocAttr])
    | (with_reducible apply pg <;> (intro hc; (try simp only [hcb, simprocAttr, ne_eq, forall_const] at hc); first | (exfalso; omega) | exact absurd trivial hc | skip))
    | (with_reducible apply hnx; clear hnx nx)
    | (with_reducible refine And.intro (by omega) ?_)
    | (with_reducible refine And.intro ?_ ?_)
    | (clear hnx nx; with_reducible apply hnx; clear hnx nx)
    | (clear hnx nx; clear hnx nx; with_reducible apply hnx; clear hnx nx))
      all_goals first
        | (exfalso
           omega)
        | (refine hlp _ (n - (pre.length + 1)) _ (by omega) ?_ ⟨pre ++ [d], a + 16, nm, by simp; omega, by simp, by simp only [List.length_append, List.length_cons, List.length_nil]; omega, ?_, ?_, rfl⟩
           · refine Wk_fr (by simp only [wkb, simprocAttr, List.length_append, List.length_cons, List.length_nil, Nat.zero_add]) ?_
             refine ⟨fun x hx => ?_, by simp [names]⟩
             simp only [List.mem_cons, List.not_mem_nil, or_false] at hx ⊢
             subst hx
             left
             rw [catD_snoc]
           · intro x hx
             rcases List.mem_append.1 hx with h | h
             · exact hpd x h
             · rw [List.mem_singleton.1 h]
               exact hd16
           · rw [hX, List.drop_drop, List.length_append]
             rfl)
    · rw [show n - pre.length = 0 by omega, comb_nil] at hX
      repeat' (first
    | (with_reducible apply W_seq_k; intro nx hnx)
    | (with_reducible first | refine wr 786941 ?_)
    | ((with_reducible first | (apply WL_op; intro nx hnx) | refine Ev_out ?_ | refine wc ?_ | (refine pf hnm fun nm hnm => ?_; try simp only [fmb] at hnm) | (refine pm hnm fun nm hnm => ?_; try simp only [fmb] at hnm) | (refine pmaybe_k ?_; intro bn hbn)); try (simp (maxSteps := 2000000) (disch := omega) only [ev, ↓evp, PV.cells, PV.one, PV.mem?, Value.cells, simprocAttr, hnm, Tryd.tf0, Tryd.tf1, Tryd.tf2, Tryd.tf3, Tryd.tf4, Tryd.tf5, Tryd.tf27, Tryd.tf28, Tryd.tf37, Tryd.tf58, Tryd.tf106, Tryd.call55]))
    | ((with_reducible first | apply W_block | apply W_scope | apply WL_nil | apply W_label | apply W_skip | apply W_exit | apply W_ret) <;> try simp only [kks, simprocAttr])
    | (with_reducible apply pg <;> (intro hc; (try simp only [hcb, simprocAttr, ne_eq, forall_const] at hc); first | (exfalso; omega) | exact absurd trivial hc | skip))
    | (with_reducible apply hnx; clear hnx nx)
    | (with_reducible refine And.intro (by omega) ?_)
    | (with_reducible refine And.intro ?_ ?_)
    | (clear hnx nx; with_reducible apply hnx; clear hnx nx)
    | (clear hnx nx; clear hnx nx; with_reducible apply hnx; clear hnx nx))
      all_goals first
        | (exfalso
           omega)
        | skip
      refine hfin _ _ (Fin_ret3 rfl rfl rfl (Sub_refl (by simp [names])) ?_)
      simp only [List.getD_cons_zero, List.getD_cons_succ, fr_getD_cons, fr_getD_nil, Nat.reduceEqDiff, Nat.reduceLT, ↓reduceIte]
      subst hX
      exact .inr ⟨rfl, N, rfl, rfl⟩
  · rw [if_pos hez] at hgS
    refine Ev_in ?_
    repeat' (first
    | (with_reducible apply W_seq_k; intro nx hnx)
    | (with_reducible first | refine wr 786941 ?_)
    | ((with_reducible first | (apply WL_op; intro nx hnx) | refine Ev_out ?_ | refine wc ?_ | (refine pf hnm fun nm hnm => ?_; try simp only [fmb] at hnm) | (refine pm hnm fun nm hnm => ?_; try simp only [fmb] at hnm) | (refine pmaybe_k ?_; intro bn hbn)); try (simp (maxSteps := 2000000) (disch := omega) only [ev, ↓evp, PV.cells, PV.one, PV.mem?, Value.cells, simprocAttr, hnm, Tryd.tf0, Tryd.tf1, Tryd.tf2, Tryd.tf3, Tryd.tf4, Tryd.tf5, Tryd.tf27, Tryd.tf28, Tryd.tf37, Tryd.tf58, Tryd.tf106, Tryd.call55]))
    | ((with_reducible first | apply W_block | apply W_scope | apply WL_nil | apply W_label | apply W_skip | apply W_exit | apply W_ret) <;> try simp only [kks, simprocAttr])
    | (with_reducible apply pg <;> (intro hc; (try simp only [hcb, simprocAttr, ne_eq, forall_const] at hc); first | (exfalso; omega) | exact absurd trivial hc | skip))
    | (with_reducible apply hnx; clear hnx nx)
    | (with_reducible refine And.intro (by omega) ?_)
    | (with_reducible refine And.intro ?_ ?_)
    | (clear hnx nx; with_reducible apply hnx; clear hnx nx)
    | (clear hnx nx; clear hnx nx; with_reducible apply hnx; clear hnx nx))
    all_goals first
      | (exfalso
         omega)
      | skip
    refine hfin _ _ (Fin_ret3 rfl rfl rfl (Sub_nil _) ?_); simp only [cob, simprocAttr]
    subst hgS
    exact .inl ⟨hez, rfl, by trivial⟩
theorem gL_dig : ∀ (k : Nat) (b : List UInt8), k * 16 ≤ b.length → ∀ d ∈ (gL gD k b).1, d.length = 16
  | 0, _, _, d, h => by simp [gL] at h
  | k + 1, b, hb, d, h => by
    have ih := gL_dig k (b.drop 16) (by rw [List.length_drop]; omega)
    have e : (gD b).2.1 = 16 := rfl
    rw [gL, if_neg (by simp [gD]), e] at h
    split at h
    · simp at h
    · simp only [List.mem_cons] at h
      rcases h with h | h
      · rw [h]
        simp only [gD, List.length_take]
        omega
      · exact ih d h
theorem gLs_dig (b : List UInt8) : ∀ d ∈ (gLs gD 16 b).1, d.length = 16 := by
  intro d h
  unfold gLs at h
  split at h
  · simp at h
  · rename_i h1
    have hgok := gC_ok (size := 16) (by omega) (b := b) (by simpa using h1)
    unfold comb at h
    split at h
    · simp at h
    · simp only [List.nil_append] at h
      exact gL_dig _ _ (by rw [List.length_drop]; omega) d h
theorem getDigs_c (G : Globs) (b : List UInt8) (hb : (b.length : Int) ≤ 4294967296) :
    PCalls Tryd.prog G 61 [.list 1 (b.map pbyte)] [] (fun res H => res = .tuple [.list 16 ((gLs gD 16 b).1.map pdh), pint .i64 (gLs gD 16 b).2.1, pint .i64 (gLs gD 16 b).2.2] ∧ H = []) :=
  LR.frz (getDigs_r G b hb) (by omega) (gLs_norm _ _ _) (by rw [catDw_len _ (gLs_dig b)]; omega) (elems_digw _ (gLs_dig b))
end Go.PM

namespace Go.PM
open Go.Proofs
attribute [local irreducible] W PCalls pcall
/-- A change. -/
structure Chg where
  at_ : Int
  drop : Int
  add : List (List UInt8)
  deriving DecidableEq
@[reducible] def Chg.pv (c : Chg) : PV := .agg [pint .i64 c.at_, pint .i64 c.drop, .list 1 (c.add.map pstr)]
theorem wrap_add_left (a b : Int) : IntKind.i64.wrap (IntKind.i64.wrap a + b) = IntKind.i64.wrap (a + b) := by
  rw [IntKind.wrap_i64, IntKind.wrap_i64, IntKind.wrap_i64]; omega
theorem wrap_add_right (a b : Int) : IntKind.i64.wrap (a + IntKind.i64.wrap b) = IntKind.i64.wrap (a + b) := by
  rw [IntKind.wrap_i64, IntKind.wrap_i64, IntKind.wrap_i64]; omega
theorem wrap_zero : IntKind.i64.wrap 0 = 0 := rfl
theorem around_c (G : Globs) (n m : Int) (hn : -9223372036854775808 ≤ n) (hn2 : n ≤ 9223372036854775807) (hm : 0 < m) : PCalls Tryd.prog G 20 [pint .i64 n, pint .i64 m] [] (fun res H => res = pint .i64 (if n < 0 then (-(n+1)).tmod m else n.tmod m) ∧ H = []) := by
  (refine PCalls_f Tryd.func20 rfl Tryd.ntmps20 Tryd.results20 (by simp) fun fin hfin => ?_; have hnm : True := trivial; simp only [ev, simprocAttr])
  repeat' (first
    | (with_reducible apply W_seq_k; intro nx hnx)
    | (with_reducible first | refine wr 19 ?_)
    | ((with_reducible first | (apply WL_op; intro nx hnx) | refine Ev_out ?_ | refine wc ?_); try (simp (maxSteps := 2000000) (disch := omega) only [ev, ↓evp, PV.cells, PV.one, PV.mem?, Value.cells, simprocAttr, hnm, Tryd.tf3, Tryd.tf4]))
    | ((with_reducible first | apply W_block | apply W_scope | apply WL_nil | apply W_label | apply W_skip | apply W_exit | apply W_ret) <;> try simp only [kks, simprocAttr])
    | (with_reducible apply pg <;> (intro hc; (try simp only [hcb, simprocAttr, ne_eq, forall_const] at hc); first | (exfalso; omega) | exact absurd trivial hc | skip))
    | (with_reducible apply hnx; clear hnx nx)
    | (with_reducible refine And.intro (by omega) ?_)
    | (with_reducible refine And.intro ?_ ?_)
    | (clear hnx nx; with_reducible apply hnx; clear hnx nx)
    | (clear hnx nx; clear hnx nx; with_reducible apply hnx; clear hnx nx))
  · refine hfin _ _ (Fin_ret1 rfl (Sub_nil _) ?_); simp only [cob, simprocAttr]
    rw [if_pos hc, show (0 : Int) - (n + 1) = -(n + 1) by omega]
    exact ⟨rfl, trivial⟩
  · refine hfin _ _ (Fin_ret1 rfl (Sub_nil _) ?_); simp only [cob, simprocAttr]
    rw [if_neg hc]
    exact ⟨rfl, trivial⟩
theorem sameLines_c (G : Globs) (xs ys : List (List UInt8)) (hx : (xs.length : Int) ≤ 9223372036854775807) : PCalls Tryd.prog G 13 [.list 1 (xs.map pstr), .list 1 (ys.map pstr)] [] (fun res H => res = pbool (decide (xs = ys)) ∧ H = []) := by
  (refine PCalls_f Tryd.func13 rfl Tryd.ntmps13 Tryd.results13 (by simp) fun fin hfin => ?_; have hnm : True := trivial; simp only [ev, simprocAttr])
  repeat' (first
    | (with_reducible apply W_seq_k; intro nx hnx)
    | (with_reducible first | refine wr 51 ?_ | refine wd (id := 6) 51 1 (.op 0 true (.op 1 true (.op 2 true (.op 3 true (.op 4 true (.op 5 true (.op 6 true (.op 7 true (.op 8 true (.done)))))))))) (by kernel_rfl) ?_)
    | ((with_reducible first | (apply WL_op; intro nx hnx) | refine Ev_out ?_ | refine wc ?_ | (apply popsD_op; intro nx hnx) | (refine popsD_alt ?_ ?_; intro nx hnx)); try (simp (maxSteps := 2000000) (disch := omega) only [ev, ↓evp, PV.cells, PV.one, PV.mem?, Value.cells, simprocAttr, hnm, Tryd.tf0, Tryd.tf3, Tryd.tf4, Tryd.tf9, Tryd.tf24]))
    | ((with_reducible first | apply W_block | apply W_scope | apply WL_nil | apply W_label | apply W_skip | apply W_exit | apply W_ret | apply popsD_done | exact popsD_stop) <;> try simp only [kks, simprocAttr])
    | (with_reducible apply pg <;> (intro hc; (try simp only [hcb, simprocAttr, ne_eq, forall_const] at hc); first | (exfalso; omega) | exact absurd trivial hc | skip))
    | (with_reducible apply hnx; clear hnx nx)
    | (with_reducible refine And.intro (by omega) ?_)
    | (with_reducible refine And.intro ?_ ?_)
    | (clear hnx nx; with_reducible apply hnx; clear hnx nx)
    | (clear hnx nx; clear hnx nx; with_reducible apply hnx; clear hnx nx))
  · refine hfin _ _ (Fin_ret1 rfl (Sub_nil _) ?_); simp only [cob, simprocAttr]
    simp
    intro h
    exact hc (by rw [h])
  · refine W_loop_k (fun n τ => ∃ i : Nat, i ≤ xs.length ∧ n = xs.length - i ∧ xs.take i = ys.take i ∧ τ = ⟨fr 26 [(0, .list 1 (xs.map pstr)), (1, .list 1 (ys.map pstr)), (5, pint .i64 i)], []⟩) xs.length ⟨fr 26 [(0, .list 1 (xs.map pstr)), (1, .list 1 (ys.map pstr)), (5, pint .i64 (0 : Nat))], []⟩ (by exact Wk_fr (by simp only [wkb, simprocAttr]) (Sub_nil _)) ⟨0, by omega, by omega, by simp, rfl⟩ ?_
    rintro n τ ⟨i, hi, rfl, he, rfl⟩ lp hlp
    skip
    repeat' (first
    | (with_reducible apply W_seq_k; intro nx hnx)
    | (with_reducible first | refine wr 51 ?_ | refine wd (id := 6) 51 1 (.op 0 true (.op 1 true (.op 2 true (.op 3 true (.op 4 true (.op 5 true (.op 6 true (.op 7 true (.op 8 true (.done)))))))))) (by kernel_rfl) ?_)
    | ((with_reducible first | (apply WL_op; intro nx hnx) | refine Ev_out ?_ | refine wc ?_ | (apply popsD_op; intro nx hnx) | (refine popsD_alt ?_ ?_; intro nx hnx)); try (simp (maxSteps := 2000000) (disch := omega) only [ev, ↓evp, PV.cells, PV.one, PV.mem?, Value.cells, simprocAttr, hnm, Tryd.tf0, Tryd.tf3, Tryd.tf4, Tryd.tf9, Tryd.tf24]))
    | ((with_reducible first | apply W_block | apply W_scope | apply WL_nil | apply W_label | apply W_skip | apply W_exit | apply W_ret | apply popsD_done | exact popsD_stop) <;> try simp only [kks, simprocAttr])
    | (with_reducible apply pg <;> (intro hc; (try simp only [hcb, simprocAttr, ne_eq, forall_const] at hc); first | (exfalso; omega) | exact absurd trivial hc | skip))
    | (with_reducible apply hnx; clear hnx nx)
    | (with_reducible refine And.intro (by omega) ?_)
    | (with_reducible refine And.intro ?_ ?_)
    | (clear hnx nx; with_reducible apply hnx; clear hnx nx)
    | (clear hnx nx; clear hnx nx; with_reducible apply hnx; clear hnx nx))
    · refine hfin _ _ (Fin_ret1 rfl (Sub_nil _) ?_); simp only [cob, simprocAttr]
      simp
      intro h
      subst h
      exact hc rfl
    · refine hlp _ (xs.length - (i+1)) _ (by omega) ?_ ⟨i+1, by omega, rfl, ?_, rfl⟩
      · exact Wk_fr (by simp only [wkb, simprocAttr]) (Sub_nil _)
      · rw [List.take_add_one, List.take_add_one, he]
        have h1 : i < xs.length := by omega
        have h2 : i < ys.length := by omega
        rw [List.getElem?_eq_getElem h1, List.getElem?_eq_getElem h2, hc]
    · refine hfin _ _ (Fin_ret1 rfl (Sub_nil _) ?_); simp only [cob, simprocAttr]
      simp
      rw [List.take_of_length_le (by omega), List.take_of_length_le (by omega)] at he
      exact he
/-- How many lines changes drop and add. -/
def sizeL (l : List Chg) : Int := (l.map fun c => c.drop + (c.add.length : Int)).sum
theorem sizeL_succ (l : List Chg) (i : Nat) (h : i < l.length) : sizeL (l.take (i + 1)) = sizeL (l.take i) + (l[i].drop + (l[i].add.length : Int)) := by
  unfold sizeL
  rw [List.take_add_one, List.getElem?_eq_getElem h]
  simp only [List.map_append, List.sum_append, Option.toList_some, List.map_cons, List.map_nil, List.sum_cons, List.sum_nil, Int.add_zero]
theorem size_c (G : Globs) (l : List Chg) (hl : (l.length : Int) ≤ 9223372036854775807) : PCalls Tryd.prog G 18 [.list 3 (l.map Chg.pv)] [] (fun res H => res = pint .i64 (IntKind.i64.wrap (sizeL l)) ∧ H = []) := by
  (refine PCalls_f Tryd.func18 rfl Tryd.ntmps18 Tryd.results18 (by simp) fun fin hfin => ?_; have hnm : True := trivial; simp only [ev, simprocAttr])
  repeat' (first
    | (with_reducible apply W_seq_k; intro nx hnx)
    | (with_reducible first | refine wr 493 ?_)
    | ((with_reducible first | (apply WL_op; intro nx hnx) | refine Ev_out ?_ | refine wc ?_ | (refine pf hnm fun nm hnm => ?_; try simp only [fmb] at hnm) | (refine pm hnm fun nm hnm => ?_; try simp only [fmb] at hnm)); try (simp (maxSteps := 2000000) (disch := omega) only [ev, ↓evp, PV.cells, PV.one, PV.mem?, Value.cells, simprocAttr, hnm, Tryd.tf0, Tryd.tf1, Tryd.tf2, Tryd.tf3, Tryd.tf9, Tryd.tf24, Tryd.tf48, Tryd.tf52]))
    | ((with_reducible first | apply W_block | apply W_scope | apply WL_nil | apply W_label | apply W_skip | apply W_exit | apply W_ret) <;> try simp only [kks, simprocAttr])
    | (with_reducible apply pg <;> (intro hc; (try simp only [hcb, simprocAttr, ne_eq, forall_const] at hc); first | (exfalso; omega) | exact absurd trivial hc | skip))
    | (with_reducible apply hnx; clear hnx nx)
    | (with_reducible refine And.intro (by omega) ?_)
    | (with_reducible refine And.intro ?_ ?_)
    | (clear hnx nx; with_reducible apply hnx; clear hnx nx)
    | (clear hnx nx; clear hnx nx; with_reducible apply hnx; clear hnx nx))
  refine W_loop_k (fun n τ => ∃ i : Nat, i ≤ l.length ∧ n = l.length - i ∧ τ = ⟨fr 22 [(0, .list 3 (l.map Chg.pv)), (3, pint .i64 (IntKind.i64.wrap (sizeL (l.take i)))), (6, .list 3 (l.map Chg.pv)), (7, pint .i64 l.length), (8, pint .i64 i)], []⟩) l.length ⟨fr 22 [(0, .list 3 (l.map Chg.pv)), (3, pint .i64 (IntKind.i64.wrap (sizeL (l.take 0)))), (6, .list 3 (l.map Chg.pv)), (7, pint .i64 l.length), (8, pint .i64 (0 : Nat))], []⟩ (by exact Wk_fr (by simp only [wkb, simprocAttr, List.take_zero, sizeL, List.map_nil, List.sum_nil, wrap_zero]) (Sub_nil _)) ⟨0, by omega, by omega, rfl⟩ ?_
  rintro n τ ⟨i, hi, rfl, rfl⟩ lp hlp
  skip
  repeat' (first
    | (with_reducible apply W_seq_k; intro nx hnx)
    | (with_reducible first | refine wr 493 ?_)
    | ((with_reducible first | (apply WL_op; intro nx hnx) | refine Ev_out ?_ | refine wc ?_ | (refine pf hnm fun nm hnm => ?_; try simp only [fmb] at hnm) | (refine pm hnm fun nm hnm => ?_; try simp only [fmb] at hnm)); try (simp (maxSteps := 2000000) (disch := omega) only [ev, ↓evp, PV.cells, PV.one, PV.mem?, Value.cells, simprocAttr, hnm, Tryd.tf0, Tryd.tf1, Tryd.tf2, Tryd.tf3, Tryd.tf9, Tryd.tf24, Tryd.tf48, Tryd.tf52]))
    | ((with_reducible first | apply W_block | apply W_scope | apply WL_nil | apply W_label | apply W_skip | apply W_exit | apply W_ret) <;> try simp only [kks, simprocAttr])
    | (with_reducible apply pg <;> (intro hc; (try simp only [hcb, simprocAttr, ne_eq, forall_const] at hc); first | (exfalso; omega) | exact absurd trivial hc | skip))
    | (with_reducible apply hnx; clear hnx nx)
    | (with_reducible refine And.intro (by omega) ?_)
    | (with_reducible refine And.intro ?_ ?_)
    | (clear hnx nx; with_reducible apply hnx; clear hnx nx)
    | (clear hnx nx; clear hnx nx; with_reducible apply hnx; clear hnx nx))
  · refine hlp _ (l.length - (i+1)) _ (by omega) ?_ ⟨i+1, by omega, rfl, rfl⟩
    rw [sizeL_succ l i (by omega)]
    exact Wk_fr (by simp only [wkb, simprocAttr, wrap_add_left, wrap_add_right]) (Sub_nil _)
  · refine hfin _ _ (Fin_ret1 rfl (Sub_nil _) ?_); simp only [cob, simprocAttr]
    have hl' : l.length ≤ i := by omega
    rw [List.take_of_length_le hl']
    exact ⟨rfl, trivial⟩
end Go.PM

namespace Go.PM
section
variable {α : Type} [DecidableEq α]
def lcsRow (x : α) (f : List α → Nat) : List α → Nat
  | [] => 0
  | y :: b => if x = y then f b + 1 else max (f (y :: b)) (lcsRow x f b)
/-- The greatest number of elements that two lists have in common, in order. -/
def lcs : List α → List α → Nat
  | [], _ => 0
  | x :: a, b => lcsRow x (lcs a) b
theorem lcs_nil (b : List α) : lcs [] b = 0 := rfl
theorem lcs_nil' (a : List α) : lcs a [] = 0 := by cases a <;> rfl
theorem lcs_cons (x y : α) (a b : List α) : lcs (x :: a) (y :: b) = if x = y then lcs a b + 1 else max (lcs a (y :: b)) (lcs (x :: a) b) := rfl
theorem lcs_le : ∀ a b : List α, lcs a b ≤ a.length ∧ lcs a b ≤ b.length
  | [], b => ⟨Nat.zero_le _, Nat.zero_le _⟩
  | x :: a, [] => ⟨Nat.zero_le _, Nat.zero_le _⟩
  | x :: a, y :: b => by
    have h1 := lcs_le a b
    have h2 := lcs_le a (y :: b)
    have h3 := lcs_le (x :: a) b
    rw [lcs_cons]
    simp only [List.length_cons] at *
    split <;> omega
  termination_by a b => a.length + b.length
theorem lcs_step : ∀ (a b : List α), (∀ x, lcs a b ≤ lcs (x :: a) b ∧ lcs (x :: a) b ≤ lcs a b + 1) ∧ (∀ y, lcs a b ≤ lcs a (y :: b) ∧ lcs a (y :: b) ≤ lcs a b + 1)
  | [], [] => ⟨fun x => by simp [lcs_nil', lcs_nil], fun y => by simp [lcs_nil]⟩
  | [], z :: b => by
    refine ⟨fun x => ?_, fun y => by simp [lcs_nil]⟩
    have h := (lcs_step [] b).1 x
    rw [lcs_cons]
    simp only [lcs_nil] at *
    split <;> omega
  | z :: a, [] => by
    refine ⟨fun x => by simp [lcs_nil'], fun y => ?_⟩
    have h := (lcs_step a []).2 y
    rw [lcs_cons]
    simp only [lcs_nil'] at *
    split <;> omega
  | z :: a, w :: b => by
    have hab := lcs_step a b
    have ha := lcs_step a (w :: b)
    have hb := lcs_step (z :: a) b
    constructor
    · intro x
      have e := lcs_cons x w (z :: a) b
      have e1 := lcs_cons z w a b
      have q1 := hab.1 z
      have q2 := hab.2 w
      have q3 := ha.1 z
      have q4 := hb.1 x
      have q5 := hb.2 w
      by_cases h : x = w
      · rw [if_pos h] at e
        omega
      · rw [if_neg h] at e
        omega
    · intro y
      have e := lcs_cons z y a (w :: b)
      have q3 := ha.1 z
      have q4 := ha.2 y
      have q5 := hb.2 w
      have q1 := hab.1 z
      have q2 := hab.2 w
      have e1 := lcs_cons z w a b
      by_cases h : z = y
      · rw [if_pos h] at e
        omega
      · rw [if_neg h] at e
        omega
  termination_by a b => a.length + b.length
end
/-- The walk: what is left of the lists is a and b; i lines of the old list lie behind; cur is the open change. -/
def run : Nat → Int → Option Chg → List (List UInt8) → List (List UInt8) → List Chg
  | 0, _, cur, _, _ => cur.toList
  | k + 1, i, cur, a, b => match a, b with
    | [], [] => cur.toList
    | x :: a', [] => run k (i + 1) (some ⟨(cur.getD ⟨i, 0, []⟩).at_, (cur.getD ⟨i, 0, []⟩).drop + 1, (cur.getD ⟨i, 0, []⟩).add⟩) a' []
    | [], y :: b' => run k i (some ⟨(cur.getD ⟨i, 0, []⟩).at_, (cur.getD ⟨i, 0, []⟩).drop, (cur.getD ⟨i, 0, []⟩).add ++ [y]⟩) [] b'
    | x :: a', y :: b' => if x = y then cur.toList ++ run k (i + 1) none a' b'
      else if lcs (x :: a') b' ≤ lcs a' (y :: b') then run k (i + 1) (some ⟨(cur.getD ⟨i, 0, []⟩).at_, (cur.getD ⟨i, 0, []⟩).drop + 1, (cur.getD ⟨i, 0, []⟩).add⟩) a' (y :: b')
      else run k i (some ⟨(cur.getD ⟨i, 0, []⟩).at_, (cur.getD ⟨i, 0, []⟩).drop, (cur.getD ⟨i, 0, []⟩).add ++ [y]⟩) (x :: a') b'
/-- The changes that lead from a to b. -/
def diffL (a b : List (List UInt8)) : List Chg := run (a.length + b.length) 0 none a b
/-- Do the first elements stand and agree? -/
def heads : List (List UInt8) → List (List UInt8) → Bool
  | x :: _, y :: _ => decide (x = y)
  | _, _ => false
theorem run_end (k : Nat) (i : Int) (cur : Option Chg) : run k i cur [] [] = cur.toList := by cases k <;> rfl
theorem run_keep {k : Nat} {i : Int} {cur : Option Chg} {x y : List UInt8} {a b : List (List UInt8)} (h : x = y) : run (k + 1) i cur (x :: a) (y :: b) = cur.toList ++ run k (i + 1) none a b := by
  rw [run, if_pos h]
theorem run_drop {k : Nat} {i : Int} {cur : Option Chg} {x : List UInt8} {a b : List (List UInt8)} (h : b = [] ∨ (heads (x :: a) b = false ∧ lcs (x :: a) b.tail ≤ lcs a b)) :
    run (k + 1) i cur (x :: a) b = run k (i + 1) (some ⟨(cur.getD ⟨i, 0, []⟩).at_, (cur.getD ⟨i, 0, []⟩).drop + 1, (cur.getD ⟨i, 0, []⟩).add⟩) a b := by
  cases b with
  | nil => rfl
  | cons y b =>
    rcases h with h | ⟨h1, h2⟩
    · cases h
    · simp only [heads, decide_eq_false_iff_not] at h1
      simp only [List.tail_cons] at h2
      rw [run, if_neg h1, if_pos h2]
theorem run_add {k : Nat} {i : Int} {cur : Option Chg} {y : List UInt8} {a b : List (List UInt8)} (h : a = [] ∨ (heads a (y :: b) = false ∧ ¬ lcs a b ≤ lcs a.tail (y :: b))) :
    run (k + 1) i cur a (y :: b) = run k i (some ⟨(cur.getD ⟨i, 0, []⟩).at_, (cur.getD ⟨i, 0, []⟩).drop, (cur.getD ⟨i, 0, []⟩).add ++ [y]⟩) a b := by
  cases a with
  | nil => rfl
  | cons x a =>
    rcases h with h | ⟨h1, h2⟩
    · cases h
    · simp only [heads, decide_eq_false_iff_not] at h1
      simp only [List.tail_cons] at h2
      rw [run, if_neg h1, if_neg h2]
end Go.PM

namespace Go.PM
open Go.Proofs
attribute [local irreducible] W PCalls pcall pcallI
theorem add_one_ne (i : Nat) : (i + 1 = i) = False := by simp
theorem ne_add_one (i : Nat) : (i = i + 1) = False := by simp
@[reducible] def rowV (m : Nat) (V : Nat → Nat → Int) : Nat → List PV := fun i => tab (m + 1) fun j => pint .i64 (V i j)
@[reducible] def tblV (w k : Nat) (nms : Nat → Int) : List PV := tab k fun i => .row (nms i) 1 w
/-- What the table says. -/
def lcsT (a b : List (List UInt8)) (i j : Nat) : Int := lcs (a.drop i) (b.drop j)
theorem lcsT_end (a b : List (List UInt8)) (i j : Nat) (h : a.length ≤ i ∨ b.length ≤ j) : lcsT a b i j = 0 := by
  unfold lcsT
  rcases h with h | h
  · rw [List.drop_of_length_le h]
    rfl
  · rw [List.drop_of_length_le h, lcs_nil']
    rfl
theorem lcsT_le (a b : List (List UInt8)) (i j : Nat) : 0 ≤ lcsT a b i j ∧ lcsT a b i j ≤ a.length := by
  have := (lcs_le (a.drop i) (b.drop j)).1
  rw [List.length_drop] at this
  unfold lcsT
  omega
theorem lcsT_eq (a b : List (List UInt8)) (i j : Nat) (hi : i < a.length) (hj : j < b.length) (h : a[i] = b[j]) : lcsT a b i j = lcsT a b (i + 1) (j + 1) + 1 := by
  unfold lcsT
  rw [List.drop_eq_getElem_cons hi, List.drop_eq_getElem_cons hj, lcs_cons, if_pos h]
  rfl
theorem lcsT_ne (a b : List (List UInt8)) (i j : Nat) (hi : i < a.length) (hj : j < b.length) (h : ¬a[i] = b[j]) : lcsT a b i j = max (lcsT a b (i + 1) j) (lcsT a b i (j + 1)) := by
  unfold lcsT
  have e := lcs_cons a[i] b[j] (a.drop (i + 1)) (b.drop (j + 1))
  rw [if_neg h, ← List.drop_eq_getElem_cons hi, ← List.drop_eq_getElem_cons hj] at e
  rw [e]
  omega
theorem Sub_tab {ty : TypeId} {nms : Nat → Int} {cont : Nat → List PV} {k : Nat} {T : Int} {o : PObj} (hi : Inj nms k) (hT : ∀ j, j < k → nms j ≠ T) : Sub ((T, o) :: rowsH ty nms cont k) ((T, o) :: rowsH ty nms cont k) := by
  refine Sub_refl ?_
  show (T :: names (rowsH ty nms cont k)).Nodup
  refine List.nodup_cons.2 ⟨fun h => ?_, rowsH_nodup hi⟩
  obtain ⟨i, hi, e⟩ := rowsH_names.1 h
  exact hT i hi e
theorem Sub_eq {H H' : Heap} (h : H = H') (hs : Sub H' H') : Sub H' H := by
  rw [h]
  exact hs
/-- The table, as a list of lists. -/
@[reducible] def tblL (a b : List (List UInt8)) : PV := .list 1 (tab (a.length + 1) fun i => .list 1 (tab (b.length + 1) fun j => pint .i64 (lcsT a b i j)))
end Go.PM

namespace Go.PM
section
variable {G : Globs}
/-- The cells of changes, one after the other. -/
def flatC (l : List Chg) : List PV := l.flatMap fun c => [pint .i64 c.at_, pint .i64 c.drop, .list 1 (c.add.map pstr)]
theorem flatC_nil : flatC [] = [] := rfl
theorem flatC_len : ∀ l : List Chg, (flatC l).length = l.length * 3
  | [] => rfl
  | c :: l => by
    have := flatC_len l
    simp only [flatC, List.flatMap_cons, List.length_append, List.length_cons, List.length_nil] at this ⊢
    omega
theorem flatC_snoc (l : List Chg) (c : Chg) : flatC (l ++ [c]) = flatC l ++ [pint .i64 c.at_, pint .i64 c.drop, .list 1 (c.add.map pstr)] := by simp [flatC]
theorem flatC_stab (l : List Chg) : ∀ p ∈ flatC l, stab p = true ∧ p.one = true := by
  intro p hp
  obtain ⟨c, _, hc⟩ := List.mem_flatMap.1 hp
  simp only [List.mem_cons, List.not_mem_nil, or_false] at hc
  rcases hc with rfl | rfl | rfl <;> exact ⟨rfl, rfl⟩
theorem flatC_len3 (l : List Chg) (x y z : PV) : (flatC l ++ [x, y, z]).length = l.length * 3 + 3 := by
  rw [List.length_append, flatC_len]
  rfl
theorem flatC_get1 (l : List Chg) (x y z : PV) : (flatC l ++ [x, y, z])[l.length * 3 + 1]? = some y := by
  rw [List.getElem?_append_right (by rw [flatC_len]; omega), flatC_len, show l.length * 3 + 1 - l.length * 3 = 1 by omega]
  rfl
theorem flatC_get2 (l : List Chg) (x y z : PV) : (flatC l ++ [x, y, z])[l.length * 3 + 2]? = some z := by
  rw [List.getElem?_append_right (by rw [flatC_len]; omega), flatC_len, show l.length * 3 + 2 - l.length * 3 = 2 by omega]
  rfl
theorem flatC_set1 (l : List Chg) (x y z v : PV) : List.take (l.length * 3 + 1) (flatC l ++ [x, y, z]) ++ v :: List.drop (l.length * 3 + 1 + 1) (flatC l ++ [x, y, z]) = flatC l ++ [x, v, z] := by
  rw [List.take_append, List.drop_append, List.take_of_length_le (by rw [flatC_len]; omega), List.drop_of_length_le (by rw [flatC_len]; omega), flatC_len,
    show l.length * 3 + 1 - l.length * 3 = 1 by omega, show l.length * 3 + 1 + 1 - l.length * 3 = 2 by omega]
  simp
theorem flatC_set2 (l : List Chg) (x y z v : PV) : List.take (l.length * 3 + 2) (flatC l ++ [x, y, z]) ++ v :: List.drop (l.length * 3 + 2 + 1) (flatC l ++ [x, y, z]) = flatC l ++ [x, y, v] := by
  rw [List.take_append, List.drop_append, List.take_of_length_le (by rw [flatC_len]; omega), List.drop_of_length_le (by rw [flatC_len]; omega), flatC_len,
    show l.length * 3 + 2 - l.length * 3 = 2 by omega, show l.length * 3 + 2 + 1 - l.length * 3 = 3 by omega]
  simp
theorem flatC_set1a (l : List Chg) (x y z v : PV) : List.take (l.length * 3 + 1) (flatC l ++ [x, y, z]) ++ [v] ++ List.drop (l.length * 3 + 1 + 1) (flatC l ++ [x, y, z]) = flatC l ++ [x, v, z] := by
  rw [← flatC_set1 l x y z v]
  simp
theorem flatC_set2a (l : List Chg) (x y z v : PV) : List.take (l.length * 3 + 2) (flatC l ++ [x, y, z]) ++ [v] ++ List.drop (l.length * 3 + 2 + 1) (flatC l ++ [x, y, z]) = flatC l ++ [x, y, v] := by
  rw [← flatC_set2 l x y z v]
  simp
theorem flatC_put2 (l : List Chg) (x y z v : PV) : (flatC l ++ [x, y, z]).set (l.length * 3 + 2) v = flatC l ++ [x, y, v] := by
  rw [List.set_append_right _ _ (by rw [flatC_len]; omega), flatC_len, show l.length * 3 + 2 - l.length * 3 = 2 by omega]
  rfl
theorem map_frz_flatC (n : Int) (cs : List PV) (l : List Chg) : (flatC l).map (frz1 n cs) = flatC l := by
  conv => rhs; rw [← List.map_id (flatC l)]
  exact List.map_congr_left fun p hp => (stab_frz (flatC_stab l p hp).1 n cs).2
theorem frz1_add {A : Int} (add : List (List UInt8)) : frz1 A (add.map pstr) (.row A 1 add.length) = .list 1 (add.map pstr) := by
  simp only [frz1, if_true, elemsOf, List.length_map]
  rw [if_pos (by omega), List.take_of_length_le (by simp)]
theorem map_frz_rest {n : Int} {cs : List PV} : ∀ {rest : Heap}, (∀ x ∈ rest, ∀ u ∈ x.2.cells, stab u = true) → rest.map (fun x => (x.1, { x.2 with cells := x.2.cells.map (frz1 n cs) })) = rest
  | [], _ => rfl
  | (m, o) :: rest, h => by
    rw [List.map_cons, map_frz_rest fun x hx => h x (List.mem_cons_of_mem _ hx)]
    have : o.cells.map (frz1 n cs) = o.cells := by
      conv => rhs; rw [← List.map_id o.cells]
      exact List.map_congr_left fun p hp => (stab_frz (h (m, o) List.mem_cons_self p hp) n cs).2
    simp only [this]
theorem frzH_close {O A : Int} (hOA : O ≠ A) {t1 t2 : TypeId} (cl : List Chg) (at_ drop : Int) (add : List (List UInt8)) {rest : Heap} (hr : ∀ x ∈ rest, ∀ u ∈ x.2.cells, stab u = true) :
    frzH A (add.map pstr) ((O, ⟨t1, true, 3, flatC cl ++ [pint .i64 at_, pint .i64 drop, .row A 1 add.length]⟩) :: (A, ⟨t2, true, 1, add.map pstr⟩) :: rest) = (O, ⟨t1, true, 3, flatC (cl ++ [⟨at_, drop, add⟩])⟩) :: rest := by
  simp only [frzH, del, if_neg hOA, if_true, List.map_cons, List.map_append, map_frz_flatC, frz1_add, List.map_nil]
  rw [map_frz_rest hr, flatC_snoc]
  rfl
theorem frzOk_close {O A : Int} (hOA : O ≠ A) {t1 t2 : TypeId} (cl : List Chg) (at_ drop : Int) (add : List (List UInt8)) {rest : Heap} (hr : ∀ x ∈ rest, ∀ u ∈ x.2.cells, stab u = true ∧ u.one = true) :
    frzOk A (add.map pstr) ((O, ⟨t1, true, 3, flatC cl ++ [pint .i64 at_, pint .i64 drop, .row A 1 add.length]⟩) :: (A, ⟨t2, true, 1, add.map pstr⟩) :: rest) := by
  intro x hx u hu
  simp only [del, if_neg hOA, if_true] at hx
  rcases List.mem_cons.1 hx with rfl | hx
  · rcases List.mem_append.1 hu with hu | hu
    · rw [(stab_frz (flatC_stab cl u hu).1 _ _).2]
      exact (flatC_stab cl u hu).2
    · simp only [List.mem_cons, List.not_mem_nil, or_false] at hu
      rcases hu with rfl | rfl | rfl
      · rfl
      · rfl
      · rw [frz1_add]
        rfl
  · rw [(stab_frz (hr x hx u hu).1 _ _).2]
    exact (hr x hx u hu).2
/-- The added lines of a change are turned no more. -/
theorem Wx_close {N : Nat} {L : List (Nat × PV)} {O A : Int} (hOA : O ≠ A) {t1 t2 : TypeId} (cl : List Chg) (at_ drop : Int) (add : List (List UInt8)) {rest : Heap} (hr : ∀ x ∈ rest, ∀ u ∈ x.2.cells, stab u = true ∧ u.one = true)
    (hL : ∀ x ∈ L, frz A (add.map pstr) x.2 = x.2) :
    Wx G [] ⟨fr N L, (O, ⟨t1, true, 3, flatC cl ++ [pint .i64 at_, pint .i64 drop, .row A 1 add.length]⟩) :: (A, ⟨t2, true, 1, add.map pstr⟩) :: rest⟩ ⟨fr N L, (O, ⟨t1, true, 3, flatC (cl ++ [⟨at_, drop, add⟩])⟩) :: rest⟩ := by
  have h := Wx.freeze_f (G := G) (I := []) (N := N) (l := L) (H := (O, ⟨t1, true, 3, flatC cl ++ [pint .i64 at_, pint .i64 drop, .row A 1 add.length]⟩) :: (A, ⟨t2, true, 1, add.map pstr⟩) :: rest) A (o := ⟨t2, true, 1, add.map pstr⟩) (by simp)
    (by simp only [look, if_neg hOA, if_true]) (frzOk_close hOA cl at_ drop add hr)
  rw [frzH_close hOA cl at_ drop add fun x hx u hu => (hr x hx u hu).1] at h
  have e : L.map (fun x => (x.1, frz A (add.map pstr) x.2)) = L := by
    conv => rhs; rw [← List.map_id L]
    exact List.map_congr_left fun x hx => by rw [hL x hx]; rfl
  simp only [e] at h
  exact h
theorem Px_close {O A : Int} (hOA : O ≠ A) {t1 t2 : TypeId} (k : Nat) (cl : List Chg) (at_ drop : Int) (add : List (List UInt8)) :
    Px G (.row O 3 k) [(O, ⟨t1, true, 3, flatC cl ++ [pint .i64 at_, pint .i64 drop, .row A 1 add.length]⟩), (A, ⟨t2, true, 1, add.map pstr⟩)] (.row O 3 k) [(O, ⟨t1, true, 3, flatC (cl ++ [⟨at_, drop, add⟩])⟩)] := by
  have h := Px.freeze (G := G) (.row O 3 k) ((O, ⟨t1, true, 3, flatC cl ++ [pint .i64 at_, pint .i64 drop, .row A 1 add.length]⟩) :: (A, ⟨t2, true, 1, add.map pstr⟩) :: []) A (o := ⟨t2, true, 1, add.map pstr⟩)
    (by simp only [look, if_neg hOA, if_true]) (frzOk_close hOA cl at_ drop add (by simp))
  rw [frzH_close hOA cl at_ drop add (by simp)] at h
  have e : frz A (add.map pstr) (.row O 3 k) = .row O 3 k := by simp only [frz, frz1, if_neg hOA]
  simp only [e] at h
  exact h
theorem elems_flatC : ∀ (l : List Chg), (List.range l.length).map (fun i => PV.agg (((flatC l).drop (i * 3)).take 3)) = l.map Chg.pv
  | [] => rfl
  | c :: l => by
    rw [List.length_cons, List.range_succ_eq_map, List.map_cons, List.map_cons, List.map_map]
    congr 1
    rw [← elems_flatC l]
    refine List.map_congr_left fun i _ => ?_
    simp only [Function.comp_apply, Nat.succ_eq_add_one]
    rw [show (i + 1) * 3 = i * 3 + 3 by omega]
    show PV.agg (List.take 3 (List.drop (i * 3 + 3) ([pint .i64 c.at_, pint .i64 c.drop, .list 1 (c.add.map pstr)] ++ flatC l))) = _
    rw [List.drop_append]
    simp
/-- A list of changes is handed back. -/
theorem Px_chg {O : Int} {t1 : TypeId} (cl : List Chg) : Px G (.row O 3 cl.length) [(O, ⟨t1, true, 3, flatC cl⟩)] (.list 3 (cl.map Chg.pv)) [] := by
  have h := Px.freeze (G := G) (.row O 3 cl.length) [(O, ⟨t1, true, 3, flatC cl⟩)] O (o := ⟨t1, true, 3, flatC cl⟩) (by simp only [look, if_true]) (by simp [frzOk, del])
  have e : frz O (flatC cl) (.row O 3 cl.length) = .list 3 (cl.map Chg.pv) := by
    simp only [frz, frz1, if_true, elemsOf]
    rw [if_pos (by rw [flatC_len]; omega), if_neg (by omega), elems_flatC]
  simp only [e] at h
  simpa [frzH, del] using h
end
attribute [irreducible] flatC
end Go.PM

namespace Go.PM
open Go.Proofs
attribute [local irreducible] W PCalls pcall pcallI
theorem step_keep {a b : List (List UInt8)} {i j k : Nat} {cur : Option Chg} (hi : i < a.length) (hj : j < b.length) (h : a[i] = b[j]) :
    run (k + 1) i cur (a.drop i) (b.drop j) = cur.toList ++ run k ((i : Int) + 1) none (a.drop (i + 1)) (b.drop (j + 1)) := by
  rw [List.drop_eq_getElem_cons hi, List.drop_eq_getElem_cons hj, run_keep h]
theorem step_drop {a b : List (List UInt8)} {i j k : Nat} {cur : Option Chg} (hi : i < a.length) (h : b.length ≤ j ∨ ∃ hj : j < b.length, ¬ a[i] = b[j] ∧ lcsT a b i (j + 1) ≤ lcsT a b (i + 1) j) :
    run (k + 1) i cur (a.drop i) (b.drop j) = run k ((i : Int) + 1) (some ⟨(cur.getD ⟨i, 0, []⟩).at_, (cur.getD ⟨i, 0, []⟩).drop + 1, (cur.getD ⟨i, 0, []⟩).add⟩) (a.drop (i + 1)) (b.drop j) := by
  rw [List.drop_eq_getElem_cons hi]
  refine run_drop ?_
  rcases h with h | ⟨hj, h1, h2⟩
  · exact .inl (List.drop_of_length_le h)
  · refine .inr ⟨?_, ?_⟩
    · rw [List.drop_eq_getElem_cons hj]
      simp only [heads, decide_eq_false_iff_not]
      exact h1
    · unfold lcsT at h2
      rw [List.tail_drop, ← List.drop_eq_getElem_cons hi]
      omega
theorem step_add {a b : List (List UInt8)} {i j k : Nat} {cur : Option Chg} (hj : j < b.length) (h : a.length ≤ i ∨ ∃ hi : i < a.length, ¬ a[i] = b[j] ∧ ¬ lcsT a b i (j + 1) ≤ lcsT a b (i + 1) j) :
    run (k + 1) i cur (a.drop i) (b.drop j) = run k i (some ⟨(cur.getD ⟨i, 0, []⟩).at_, (cur.getD ⟨i, 0, []⟩).drop, (cur.getD ⟨i, 0, []⟩).add ++ [b[j]]⟩) (a.drop i) (b.drop (j + 1)) := by
  rw [List.drop_eq_getElem_cons hj]
  refine run_add ?_
  rcases h with h | ⟨hi, h1, h2⟩
  · exact .inl (List.drop_of_length_le h)
  · refine .inr ⟨?_, ?_⟩
    · rw [List.drop_eq_getElem_cons hi]
      simp only [heads, decide_eq_false_iff_not]
      exact h1
    · unfold lcsT at h2
      rw [List.tail_drop, ← List.drop_eq_getElem_cons hj]
      omega
/-- The walk of the third loop: what stands at its head. -/
def diffJ (a b : List (List UInt8)) (k : Nat) (τ : PState) : Prop :=
  ∃ (i j k0 : Nat) (cl : List Chg) (O : Int), i ≤ a.length ∧ j ≤ b.length ∧ k = (a.length - i) + (b.length - j) ∧ k ≤ k0 ∧
    ((cl.length ≤ i + j ∧ cl ++ run k0 i none (a.drop i) (b.drop j) = diffL a b ∧
        τ = ⟨fr 198 [(0, .list 1 (a.map pstr)), (1, .list 1 (b.map pstr)), (5, pint .i64 a.length), (6, pint .i64 b.length), (7, tblL a b), (13, .row O 3 cl.length), (14, pbool false), (15, pint .i64 i), (16, pint .i64 j)], [(O, ⟨52, true, 3, flatC cl⟩)]⟩) ∨
      (∃ (A at_ drop : Int) (add : List (List UInt8)), O ≠ A ∧ 0 ≤ drop ∧ drop ≤ i ∧ add.length ≤ j ∧ cl.length + 1 ≤ i + j ∧ cl ++ run k0 i (some ⟨at_, drop, add⟩) (a.drop i) (b.drop j) = diffL a b ∧
        τ = ⟨fr 198 [(0, .list 1 (a.map pstr)), (1, .list 1 (b.map pstr)), (5, pint .i64 a.length), (6, pint .i64 b.length), (7, tblL a b), (13, .row O 3 (cl.length + 1)), (14, pbool true), (15, pint .i64 i), (16, pint .i64 j)],
          [(O, ⟨52, true, 3, flatC cl ++ [pint .i64 at_, pint .i64 drop, .row A 1 add.length]⟩), (A, ⟨9, true, 1, add.map pstr⟩)]⟩))
/-- back to the loop's head, a line was added -/
theorem leaf_add {G : Globs} {a b : List (List UInt8)} {lp : PState → Prop} {k : Nat} (hlp : ∀ σ'' n', n' < k → Wxs G [] σ'' (diffJ a b n') → lp σ'') {l : List (Nat × PV)} {R : Heap} {O A : Int} {X : Int × PObj} {cA cO : List PV}
    (i j k0 : Nat) (cl : List Chg) (at_ drop : Int) (add : List (List UInt8)) (hi : i ≤ a.length) (hj : j ≤ b.length) (hlt : (a.length - i) + (b.length - j) < k) (hk : (a.length - i) + (b.length - j) ≤ k0) (hd0 : 0 ≤ drop) (hd1 : drop ≤ i) (hadd : add.length ≤ j) (hlen : cl.length + 1 ≤ i + j)
    (hrun : cl ++ run k0 i (some ⟨at_, drop, add⟩) (a.drop i) (b.drop j) = diffL a b) (hOA : ¬ A = O)
    (hfr : ∀ x ∈ [(0, PV.list 1 (a.map pstr)), (1, .list 1 (b.map pstr)), (5, pint .i64 a.length), (6, pint .i64 b.length), (7, tblL a b), (13, .row O 3 (cl.length + 1)), (14, pbool true), (15, pint .i64 i), (16, pint .i64 j)], (fr 198 l).getD x.1 .junk = x.2)
    (hcA : cA = add.map pstr) (hcO : cO = flatC cl ++ [pint .i64 at_, pint .i64 drop, .row A 1 add.length]) : lp ⟨fr 198 l, (A, ⟨9, true, 1, cA⟩) :: X :: (O, ⟨52, true, 3, cO⟩) :: R⟩ := by
  subst hcA hcO
  refine hlp _ _ hlt (.of (.of_wk (Wk_fr hfr ⟨?_, ?_⟩)) ⟨i, j, k0, cl, O, hi, hj, rfl, hk, .inr ⟨A, at_, drop, add, fun e => hOA e.symm, hd0, hd1, hadd, hlen, hrun, rfl⟩⟩)
  · intro x hx
    simp only [List.mem_cons, List.not_mem_nil, or_false] at hx ⊢
    rcases hx with rfl | rfl
    · exact .inr (.inr (.inl rfl))
    · exact .inl rfl
  · simp only [names, List.map_cons, List.map_nil]
    simp
    exact fun e => hOA e.symm
/-- back to the loop's head, a line was dropped as the first of a change -/
theorem leaf_drop {G : Globs} {a b : List (List UInt8)} {lp : PState → Prop} {k : Nat} (hlp : ∀ σ'' n', n' < k → Wxs G [] σ'' (diffJ a b n') → lp σ'') {l : List (Nat × PV)} {R : Heap} {O : Int} {cO : List PV}
    (i j k0 : Nat) (cl : List Chg) (at_ drop : Int) (hi : i ≤ a.length) (hj : j ≤ b.length) (hlt : (a.length - i) + (b.length - j) < k) (hk : (a.length - i) + (b.length - j) ≤ k0) (hd0 : 0 ≤ drop) (hd1 : drop ≤ i) (hlen : cl.length + 1 ≤ i + j)
    (hrun : cl ++ run k0 i (some ⟨at_, drop, []⟩) (a.drop i) (b.drop j) = diffL a b)
    (hfr : ∀ x ∈ [(0, PV.list 1 (a.map pstr)), (1, .list 1 (b.map pstr)), (5, pint .i64 a.length), (6, pint .i64 b.length), (7, tblL a b), (13, .row O 3 (cl.length + 1)), (14, pbool true), (15, pint .i64 i), (16, pint .i64 j)], (fr 198 l).getD x.1 .junk = x.2)
    (hcO : cO = flatC cl ++ [pint .i64 at_, pint .i64 drop, pnil]) : lp ⟨fr 198 l, (O, ⟨52, true, 3, cO⟩) :: R⟩ := by
  subst hcO
  refine hlp _ _ hlt (Wxs.adopt_c O (cl.length * 3 + 2) 9 1 (o := ⟨52, true, 3, flatC cl ++ [pint .i64 at_, pint .i64 drop, pnil]⟩) (by simp only [look, if_true]) (flatC_get2 cl _ _ _) fun A hA => ?_)
  simp only [names, List.map_cons, List.mem_cons, not_or] at hA
  simp only [upd, if_true, flatC_put2]
  refine .of (.of_wk (Wk_fr hfr ⟨?_, ?_⟩)) ⟨i, j, k0, cl, O, hi, hj, rfl, hk, .inr ⟨A, at_, drop, [], fun e => hA.1 e.symm, hd0, hd1, by simp, hlen, hrun, rfl⟩⟩
  · intro x hx
    simp only [List.mem_cons, List.not_mem_nil, or_false] at hx ⊢
    rcases hx with rfl | rfl
    · exact .inr (.inl rfl)
    · exact .inl rfl
  · simp only [names, List.map_cons, List.map_nil]
    simp
    exact fun e => hA.1 e.symm
set_option maxRecDepth 100000 in
set_option maxHeartbeats 8000000 in
theorem diff_closed (G : Globs) (a b : List (List UInt8)) (ha : a.length ≤ 4000000) (hb : b.length ≤ 4000000) (i j k0 : Nat) (cl : List Chg) (O : Int) (hi : i ≤ a.length) (hj : j ≤ b.length) (hk : (a.length - i) + (b.length - j) ≤ k0)
    (hlen : cl.length ≤ i + j) (hrun : cl ++ run k0 i none (a.drop i) (b.drop j) = diffL a b) (lp : PState → Prop) (hlp : ∀ σ'' n', n' < (a.length - i) + (b.length - j) → Wxs G [] σ'' (diffJ a b n') → lp σ'') (K : Exit → PState → Prop)
    (hK : ∀ σ', cl = diffL a b → Wk σ' ⟨fr 198 [(13, .row O 3 cl.length)], [(O, ⟨52, true, 3, flatC cl⟩)]⟩ → K (.exit 6) σ') :
    W Tryd.prog G [] (nav (Tryd.f16.body.getD .skip) [1, 1, 1, 1, 1, 1, 1, 0, 1, 0, 0]) ⟨fr 198 [(0, .list 1 (a.map pstr)), (1, .list 1 (b.map pstr)), (5, pint .i64 a.length), (6, pint .i64 b.length), (7, tblL a b), (13, .row O 3 cl.length), (14, pbool false), (15, pint .i64 i), (16, pint .i64 j)], [(O, ⟨52, true, 3, flatC cl⟩)]⟩ (seqK lp K) := by
  simp only [Tryd.f16, Option.getD_some, nav]
  have hnm : True := trivial
  repeat' (first
    | (with_reducible apply W_seq_k; intro nx hnx)
    | (with_reducible first | refine wr 105965634715635 ?_ | refine wd (id := 16) 105965634715635 1 (.op 0 true (.op 1 true (.op 2 true (.op 3 true (.op 4 true (.op 5 true (.op 6 true (.op 7 true (.op 8 true (.done)))))))))) (by kernel_rfl) ?_ | refine wd (id := 17) 105965634715635 1 (.op 0 true (.op 1 true (.op 2 true (.op 3 true (.op 4 true (.op 5 true (.op 6 true (.op 7 true (.op 8 true (.op 9 true (.op 10 true (.op 11 true (.op 12 true (.op 13 true (.op 14 true (.op 15 true (.op 16 false (.done)))))))))))))))))) (by kernel_rfl) ?_ | refine wd (id := 18) 105965634715635 1 (.op 0 true (.op 1 true (.op 2 true (.op 3 true (.op 4 true (.op 5 true (.op 6 true (.op 7 true (.op 8 true (.op 9 true (.op 10 true (.op 11 true (.op 12 true (.op 13 true (.op 14 true (.op 15 true (.op 16 true (.op 17 true (.op 18 true (.op 19 true (.op 20 true (.op 21 true (.op 22 true (.op 23 false (.done))))))))))))))))))))))))) (by kernel_rfl) ?_ | refine wd (id := 25) 105965634715635 1 (.op 0 true (.op 1 true (.op 2 true (.op 3 true (.op 4 true (.op 5 true (.op 6 true (.op 7 true (.op 8 true (.op 9 true (.op 10 true (.op 11 true (.op 12 true (.op 13 true (.op 14 true (.op 15 true (.op 16 true (.op 17 true (.op 18 true (.done)))))))))))))))))))) (by kernel_rfl) ?_ | refine wd (id := 33) 105965634715635 1 (.op 0 true (.op 1 true (.op 2 true (.op 3 true (.op 4 true (.op 5 true (.op 6 true (.op 7 true (.op 8 true (.op 9 true (.op 10 true (.op 11 true (.op 12 true (.op 13 true (.op 14 true (.op 15 true (.op 16 true (.op 17 true (.op 18 true (.op 19 true (.op 20 true (.op 21 true (.op 22 true (.op 23 true (.op 24 true (.op 25 true (.op 26 true (.done)))))))))))))))))))))))))))) (by kernel_rfl) ?_ | refine wd (id := 36) 105965634715635 3 (.op 0 true (.op 1 true (.op 2 true (.op 3 true (.op 4 true (.op 5 true (.op 6 true (.op 7 true (.op 8 true (.op 9 true (.op 10 false (.op 11 true (.op 12 true (.op 13 false (.done))))))))))))))) (by kernel_rfl) ?_)
    | ((with_reducible first | (apply WL_op; intro nx hnx) | refine Ev_out ?_ | refine wc ?_ | (apply popsD_op; intro nx hnx) | (refine popsD_alt ?_ ?_; intro nx hnx) | (refine pf hnm fun nm hnm => ?_; try simp only [fmb] at hnm) | (refine pm hnm fun nm hnm => ?_; try simp only [fmb] at hnm) | (refine pmaybe_k ?_; intro bn hbn)); try (simp (maxSteps := 2000000) (disch := omega) only [ev, ↓evp, PV.cells, PV.one, PV.mem?, Value.cells, simprocAttr, hnm, Tryd.tf0, Tryd.tf1, Tryd.tf2, Tryd.tf3, Tryd.tf4, Tryd.tf9, Tryd.tf22, Tryd.tf24, Tryd.tf48, Tryd.tf52, Tryd.tf84, Tryd.tf85, tab_len, tab_getD, flatC_len, flatC_len3, flatC_get1, flatC_get2, flatC_set1a, flatC_set2a, Nat.add_sub_cancel]))
    | ((with_reducible first | apply W_block | apply W_scope | apply WL_nil | apply W_label | apply W_skip | apply W_exit | apply W_ret | apply popsD_done | exact popsD_stop) <;> try simp only [kks, simprocAttr])
    | (with_reducible apply pg <;> (intro hc; (try simp only [hcb, simprocAttr, ne_eq, forall_const] at hc); first | (exfalso; omega) | exact absurd trivial hc | skip))
    | (with_reducible apply hnx; clear hnx nx)
    | (with_reducible refine And.intro (by omega) ?_)
    | (with_reducible refine And.intro ?_ ?_)
    | (clear hnx nx; with_reducible apply hnx; clear hnx nx)
    | (clear hnx nx; clear hnx nx; with_reducible apply hnx; clear hnx nx))
  all_goals first
    | (have hij : i = a.length ∧ j = b.length := by omega
       refine hK _ ?_ ?_
       · rw [List.drop_of_length_le (by omega), List.drop_of_length_le (by omega), run_end] at hrun
         simpa using hrun
       · exact Wk_fr (by simp only [wkb, simprocAttr]) ⟨by simp, by simp [names]⟩)
    | (have hk1 : k0 = (k0 - 1) + 1 := by omega
       rw [hk1, step_keep (by omega) (by omega) hc] at hrun
       refine hlp _ _ ?_ (.of (.of_wk ?_) ⟨i + 1, j + 1, k0 - 1, cl, O, by omega, by omega, rfl, by omega, .inl ⟨by omega, hrun, rfl⟩⟩)
       · omega
       · exact Wk_fr (by simp only [wkb, simprocAttr]) ⟨by simp, by simp [names]⟩)
    | (have hk1 : k0 = (k0 - 1) + 1 := by omega
       rw [hk1, step_drop (by omega) (by first | exact .inl (by omega) | exact .inr ⟨by omega, by assumption, by omega⟩)] at hrun
       exact leaf_drop hlp (i + 1) j (k0 - 1) cl i 1 (by omega) (by omega) (by omega) (by omega) (by omega) (by omega) (by omega) hrun (by simp only [List.forall_mem_cons, List.not_mem_nil, false_implies, implies_true, and_true, true_and, and_self, fr_getD_cons, fr_getD_nil, Nat.reduceEqDiff, Nat.reduceLT, ↓reduceIte, Int.natCast_add, Int.cast_ofNat_Int, Int.natCast_zero]) rfl)
    | (have hk1 : k0 = (k0 - 1) + 1 := by omega
       rw [hk1, step_add (by omega) (by first | exact .inl (by omega) | exact .inr ⟨by omega, by assumption, by omega⟩)] at hrun
       exact leaf_add hlp i (j + 1) (k0 - 1) cl i 0 [b[j]] (by omega) (by omega) (by omega) (by omega) (by omega) (by omega) (by simp) (by omega) hrun (by simp only [hnm, not_false_eq_true]) (by simp only [List.forall_mem_cons, List.not_mem_nil, false_implies, implies_true, and_true, true_and, and_self, fr_getD_cons, fr_getD_nil, Nat.reduceEqDiff, Nat.reduceLT, ↓reduceIte, Int.natCast_add, Int.cast_ofNat_Int, Int.natCast_zero]) rfl rfl)
set_option maxRecDepth 100000 in
set_option maxHeartbeats 8000000 in
theorem diff_open (G : Globs) (a b : List (List UInt8)) (ha : a.length ≤ 4000000) (hb : b.length ≤ 4000000) (i j k0 : Nat) (cl : List Chg) (O A at_ drop : Int) (add : List (List UInt8)) (hi : i ≤ a.length) (hj : j ≤ b.length) (hk : (a.length - i) + (b.length - j) ≤ k0)
    (hOA : O ≠ A) (hd0 : 0 ≤ drop) (hd1 : drop ≤ i) (hadd : add.length ≤ j) (hlen : cl.length + 1 ≤ i + j) (hrun : cl ++ run k0 i (some ⟨at_, drop, add⟩) (a.drop i) (b.drop j) = diffL a b)
    (lp : PState → Prop) (hlp : ∀ σ'' n', n' < (a.length - i) + (b.length - j) → Wxs G [] σ'' (diffJ a b n') → lp σ'') (K : Exit → PState → Prop)
    (hK : ∀ σ', cl ++ [⟨at_, drop, add⟩] = diffL a b → Wk σ' ⟨fr 198 [(13, .row O 3 (cl.length + 1))], [(O, ⟨52, true, 3, flatC cl ++ [pint .i64 at_, pint .i64 drop, .row A 1 add.length]⟩), (A, ⟨9, true, 1, add.map pstr⟩)]⟩ → K (.exit 6) σ') :
    W Tryd.prog G [] (nav (Tryd.f16.body.getD .skip) [1, 1, 1, 1, 1, 1, 1, 0, 1, 0, 0]) ⟨fr 198 [(0, PV.list 1 (a.map pstr)), (1, .list 1 (b.map pstr)), (5, pint .i64 a.length), (6, pint .i64 b.length), (7, tblL a b), (13, .row O 3 (cl.length + 1)), (14, pbool true), (15, pint .i64 i), (16, pint .i64 j)], [(O, ⟨52, true, 3, flatC cl ++ [pint .i64 at_, pint .i64 drop, .row A 1 add.length]⟩), (A, ⟨9, true, 1, add.map pstr⟩)]⟩ (seqK lp K) := by
  simp only [Tryd.f16, Option.getD_some, nav]
  have hnm : True := trivial
  have hOA' : ¬ A = O := fun e => hOA e.symm
  have hsub : Sub [(O, ⟨52, true, 3, flatC cl ++ [pint .i64 at_, pint .i64 drop, .row A 1 add.length]⟩), (A, ⟨9, true, 1, add.map pstr⟩)] [(O, ⟨52, true, 3, flatC cl ++ [pint .i64 at_, pint .i64 drop, .row A 1 add.length]⟩), (A, ⟨9, true, 1, add.map pstr⟩)] :=
    Sub_refl (by simp only [names, List.map_cons, List.map_nil]; simp; exact hOA)
  repeat' (first
    | (with_reducible apply W_seq_k; intro nx hnx)
    | (with_reducible first | refine wr 105965634715635 ?_ | refine wd (id := 16) 105965634715635 1 (.op 0 true (.op 1 true (.op 2 true (.op 3 true (.op 4 true (.op 5 true (.op 6 true (.op 7 true (.op 8 true (.done)))))))))) (by kernel_rfl) ?_ | refine wd (id := 17) 105965634715635 1 (.op 0 true (.op 1 true (.op 2 true (.op 3 true (.op 4 true (.op 5 true (.op 6 true (.op 7 true (.op 8 true (.op 9 true (.op 10 true (.op 11 true (.op 12 true (.op 13 true (.op 14 true (.op 15 true (.op 16 false (.done)))))))))))))))))) (by kernel_rfl) ?_ | refine wd (id := 18) 105965634715635 1 (.op 0 true (.op 1 true (.op 2 true (.op 3 true (.op 4 true (.op 5 true (.op 6 true (.op 7 true (.op 8 true (.op 9 true (.op 10 true (.op 11 true (.op 12 true (.op 13 true (.op 14 true (.op 15 true (.op 16 true (.op 17 true (.op 18 true (.op 19 true (.op 20 true (.op 21 true (.op 22 true (.op 23 false (.done))))))))))))))))))))))))) (by kernel_rfl) ?_ | refine wd (id := 25) 105965634715635 1 (.op 0 true (.op 1 true (.op 2 true (.op 3 true (.op 4 true (.op 5 true (.op 6 true (.op 7 true (.op 8 true (.op 9 true (.op 10 true (.op 11 true (.op 12 true (.op 13 true (.op 14 true (.op 15 true (.op 16 true (.op 17 true (.op 18 true (.done)))))))))))))))))))) (by kernel_rfl) ?_ | refine wd (id := 33) 105965634715635 1 (.op 0 true (.op 1 true (.op 2 true (.op 3 true (.op 4 true (.op 5 true (.op 6 true (.op 7 true (.op 8 true (.op 9 true (.op 10 true (.op 11 true (.op 12 true (.op 13 true (.op 14 true (.op 15 true (.op 16 true (.op 17 true (.op 18 true (.op 19 true (.op 20 true (.op 21 true (.op 22 true (.op 23 true (.op 24 true (.op 25 true (.op 26 true (.done)))))))))))))))))))))))))))) (by kernel_rfl) ?_ | refine wd (id := 36) 105965634715635 3 (.op 0 true (.op 1 true (.op 2 true (.op 3 true (.op 4 true (.op 5 true (.op 6 true (.op 7 true (.op 8 true (.op 9 true (.op 10 false (.op 11 true (.op 12 true (.op 13 false (.done))))))))))))))) (by kernel_rfl) ?_)
    | ((with_reducible first | (apply WL_op; intro nx hnx) | refine Ev_out ?_ | refine wc ?_ | (apply popsD_op; intro nx hnx) | (refine popsD_alt ?_ ?_; intro nx hnx) | (refine pf hnm fun nm hnm => ?_; try simp only [fmb] at hnm) | (refine pm hnm fun nm hnm => ?_; try simp only [fmb] at hnm) | (refine pmaybe_k ?_; intro bn hbn)); try (simp (maxSteps := 2000000) (disch := omega) only [ev, ↓evp, PV.cells, PV.one, PV.mem?, Value.cells, simprocAttr, hnm, Tryd.tf0, Tryd.tf1, Tryd.tf2, Tryd.tf3, Tryd.tf4, Tryd.tf9, Tryd.tf22, Tryd.tf24, Tryd.tf48, Tryd.tf52, Tryd.tf84, Tryd.tf85, tab_len, tab_getD, flatC_len, flatC_len3, flatC_get1, flatC_get2, flatC_set1a, flatC_set2a, Nat.add_sub_cancel, hOA, hOA']))
    | ((with_reducible first | apply W_block | apply W_scope | apply WL_nil | apply W_label | apply W_skip | apply W_exit | apply W_ret | apply popsD_done | exact popsD_stop) <;> try simp only [kks, simprocAttr])
    | (with_reducible apply pg <;> (intro hc; (try simp only [hcb, simprocAttr, ne_eq, forall_const] at hc); first | (exfalso; omega) | exact absurd trivial hc | skip))
    | (with_reducible apply hnx; clear hnx nx)
    | (with_reducible refine And.intro (by omega) ?_)
    | (with_reducible refine And.intro ?_ ?_)
    | (clear hnx nx; with_reducible apply hnx; clear hnx nx)
    | (clear hnx nx; clear hnx nx; with_reducible apply hnx; clear hnx nx))
  all_goals first
    | (have hij : i = a.length ∧ j = b.length := by omega
       refine hK _ ?_ ?_
       · rw [List.drop_of_length_le (by omega), List.drop_of_length_le (by omega), run_end] at hrun
         simpa using hrun
       · exact Wk_fr (by simp only [List.forall_mem_cons, List.not_mem_nil, false_implies, implies_true, and_true, true_and, and_self, fr_getD_cons, fr_getD_nil, Nat.reduceEqDiff, Nat.reduceLT, ↓reduceIte, Int.natCast_add, Int.cast_ofNat_Int, Int.natCast_zero]) hsub)
    | (have hk1 : k0 = (k0 - 1) + 1 := by omega
       rw [hk1, step_keep (by omega) (by omega) hc] at hrun
       refine hlp _ ((a.length - (i + 1)) + (b.length - (j + 1))) (by omega) (Wxs.wx ((Wx.of_wk (τ := ⟨fr 198 [(0, .list 1 (a.map pstr)), (1, .list 1 (b.map pstr)), (5, pint .i64 a.length), (6, pint .i64 b.length), (7, tblL a b), (13, .row O 3 (cl.length + 1)), (14, pbool false), (15, pint .i64 ((i + 1 : Nat) : Int)), (16, pint .i64 ((j + 1 : Nat) : Int))], _⟩)
         (Wk_fr (by simp only [List.forall_mem_cons, List.not_mem_nil, false_implies, implies_true, and_true, true_and, and_self, fr_getD_cons, fr_getD_nil, Nat.reduceEqDiff, Nat.reduceLT, ↓reduceIte, Int.natCast_add, Int.cast_ofNat_Int, Int.natCast_zero]) hsub)).trans (Wx_close hOA cl at_ drop add (rest := []) (by simp) ?_)) (.of (Wx.refl _) ⟨i + 1, j + 1, k0 - 1, cl ++ [⟨at_, drop, add⟩], O, by omega, by omega, rfl, by omega, .inl ⟨?_, ?_, ?_⟩⟩))
       · simp [frz, frz1, hOA]
       · simp only [List.length_append, List.length_cons, List.length_nil]
         omega
       · rw [List.append_assoc]
         exact hrun
       · simp only [List.length_append, List.length_cons, List.length_nil])
    | (have hk1 : k0 = (k0 - 1) + 1 := by omega
       rw [hk1, step_drop (by omega) (by first | exact .inl (by omega) | exact .inr ⟨by omega, by assumption, by omega⟩)] at hrun
       refine hlp _ ((a.length - (i + 1)) + (b.length - j)) (by omega) (.of (.of_wk (Wk_fr (l' := [(0, PV.list 1 (a.map pstr)), (1, .list 1 (b.map pstr)), (5, pint .i64 a.length), (6, pint .i64 b.length), (7, tblL a b), (13, .row O 3 (cl.length + 1)), (14, pbool true), (15, pint .i64 ((i + 1 : Nat) : Int)), (16, pint .i64 j)]) (by simp only [List.forall_mem_cons, List.not_mem_nil, false_implies, implies_true, and_true, true_and, and_self, fr_getD_cons, fr_getD_nil, Nat.reduceEqDiff, Nat.reduceLT, ↓reduceIte, Int.natCast_add, Int.cast_ofNat_Int, Int.natCast_zero]) (Sub_refl (by simp only [names, List.map_cons, List.map_nil]; simp; exact hOA)))) ⟨i + 1, j, k0 - 1, cl, O, by omega, by omega, rfl, by omega, .inr ⟨A, at_, drop + 1, add, hOA, by omega, by omega, by omega, by omega, hrun, rfl⟩⟩))
    | (have hk1 : k0 = (k0 - 1) + 1 := by omega
       rw [hk1, step_add (by omega) (by first | exact .inl (by omega) | exact .inr ⟨by omega, by assumption, by omega⟩)] at hrun
       exact leaf_add hlp i (j + 1) (k0 - 1) cl at_ drop (add ++ [b[j]]) (by omega) (by omega) (by omega) (by omega) (by omega) (by omega) (by simp; omega) (by omega) hrun (by simp only [hnm, not_false_eq_true]) (by simp only [List.forall_mem_cons, List.not_mem_nil, false_implies, implies_true, and_true, true_and, and_self, fr_getD_cons, fr_getD_nil, Nat.reduceEqDiff, Nat.reduceLT, ↓reduceIte, Int.natCast_add, Int.cast_ofNat_Int, Int.natCast_zero]) (by simp) (by simp))
end Go.PM

namespace Go.PM
open Go.Proofs
attribute [local irreducible] W PCalls pcall pcallI
set_option maxRecDepth 100000 in
set_option maxHeartbeats 8000000 in
theorem diff_r (G : Globs) (a b : List (List UInt8)) (ha : a.length ≤ 4000000) (hb : b.length ≤ 4000000) :
    PCalls Tryd.prog G 16 [.list 1 (a.map pstr), .list 1 (b.map pstr)] [] (fun res H => ∃ (O : Int) (cl : List Chg), (cl = diffL a b ∧ res = .row O 3 cl.length ∧ H = [(O, ⟨52, true, 3, flatC cl⟩)]) ∨
      (∃ (A at_ drop : Int) (add : List (List UInt8)), O ≠ A ∧ cl ++ [⟨at_, drop, add⟩] = diffL a b ∧ res = .row O 3 (cl.length + 1) ∧
        H = [(O, ⟨52, true, 3, flatC cl ++ [pint .i64 at_, pint .i64 drop, .row A 1 add.length]⟩), (A, ⟨9, true, 1, add.map pstr⟩)])) := by
  (refine PCalls_f Tryd.func16 rfl Tryd.ntmps16 Tryd.results16 (by simp) fun fin hfin => ?_; have hnm : True := trivial; simp only [ev, simprocAttr])
  repeat' (first
    | (with_reducible apply W_seq_k; intro nx hnx)
    | (with_reducible first | refine wr 105965634715635 ?_ | refine wd (id := 16) 105965634715635 1 (.op 0 true (.op 1 true (.op 2 true (.op 3 true (.op 4 true (.op 5 true (.op 6 true (.op 7 true (.op 8 true (.done)))))))))) (by kernel_rfl) ?_ | refine wd (id := 17) 105965634715635 1 (.op 0 true (.op 1 true (.op 2 true (.op 3 true (.op 4 true (.op 5 true (.op 6 true (.op 7 true (.op 8 true (.op 9 true (.op 10 true (.op 11 true (.op 12 true (.op 13 true (.op 14 true (.op 15 true (.op 16 false (.done)))))))))))))))))) (by kernel_rfl) ?_ | refine wd (id := 18) 105965634715635 1 (.op 0 true (.op 1 true (.op 2 true (.op 3 true (.op 4 true (.op 5 true (.op 6 true (.op 7 true (.op 8 true (.op 9 true (.op 10 true (.op 11 true (.op 12 true (.op 13 true (.op 14 true (.op 15 true (.op 16 true (.op 17 true (.op 18 true (.op 19 true (.op 20 true (.op 21 true (.op 22 true (.op 23 false (.done))))))))))))))))))))))))) (by kernel_rfl) ?_ | refine wd (id := 25) 105965634715635 1 (.op 0 true (.op 1 true (.op 2 true (.op 3 true (.op 4 true (.op 5 true (.op 6 true (.op 7 true (.op 8 true (.op 9 true (.op 10 true (.op 11 true (.op 12 true (.op 13 true (.op 14 true (.op 15 true (.op 16 true (.op 17 true (.op 18 true (.done)))))))))))))))))))) (by kernel_rfl) ?_ | refine wd (id := 33) 105965634715635 1 (.op 0 true (.op 1 true (.op 2 true (.op 3 true (.op 4 true (.op 5 true (.op 6 true (.op 7 true (.op 8 true (.op 9 true (.op 10 true (.op 11 true (.op 12 true (.op 13 true (.op 14 true (.op 15 true (.op 16 true (.op 17 true (.op 18 true (.op 19 true (.op 20 true (.op 21 true (.op 22 true (.op 23 true (.op 24 true (.op 25 true (.op 26 true (.done)))))))))))))))))))))))))))) (by kernel_rfl) ?_ | refine wd (id := 36) 105965634715635 3 (.op 0 true (.op 1 true (.op 2 true (.op 3 true (.op 4 true (.op 5 true (.op 6 true (.op 7 true (.op 8 true (.op 9 true (.op 10 false (.op 11 true (.op 12 true (.op 13 false (.done))))))))))))))) (by kernel_rfl) ?_)
    | ((with_reducible first | (apply WL_op; intro nx hnx) | refine Ev_out ?_ | refine wc ?_ | (apply popsD_op; intro nx hnx) | (refine popsD_alt ?_ ?_; intro nx hnx) | (refine pf hnm fun nm hnm => ?_; try simp only [fmb] at hnm) | (refine pm hnm fun nm hnm => ?_; try simp only [fmb] at hnm) | (refine pmaybe_k ?_; intro bn hbn)); try (simp (maxSteps := 2000000) (disch := omega) only [ev, ↓evp, PV.cells, PV.one, PV.mem?, Value.cells, simprocAttr, hnm, Tryd.tf0, Tryd.tf1, Tryd.tf2, Tryd.tf3, Tryd.tf4, Tryd.tf9, Tryd.tf22, Tryd.tf24, Tryd.tf48, Tryd.tf52, Tryd.tf84, Tryd.tf85, tab_rep, tab_len]))
    | ((with_reducible first | apply W_block | apply W_scope | apply WL_nil | apply W_label | apply W_skip | apply W_exit | apply W_ret | apply popsD_done | exact popsD_stop) <;> try simp only [kks, simprocAttr])
    | (with_reducible apply pg <;> (intro hc; (try simp only [hcb, simprocAttr, ne_eq, forall_const] at hc); first | (exfalso; omega) | exact absurd trivial hc | skip))
    | (with_reducible apply hnx; clear hnx nx)
    | (with_reducible refine And.intro (by omega) ?_)
    | (with_reducible refine And.intro ?_ ?_)
    | (clear hnx nx; with_reducible apply hnx; clear hnx nx)
    | (clear hnx nx; clear hnx nx; with_reducible apply hnx; clear hnx nx))
  obtain ⟨T, hTd⟩ : ∃ T : Int, T = nm := ⟨_, rfl⟩
  subst hTd
  clear hnm
  have hnm : True := trivial
  refine W_loop_k (fun k τ => ∃ (i : Nat) (nms : Nat → Int), i ≤ a.length + 1 ∧ k = a.length + 1 - i ∧ Inj nms i ∧ (∀ j, j < i → nms j ≠ T) ∧
      τ = ⟨fr 198 [(0, .list 1 (a.map pstr)), (1, .list 1 (b.map pstr)), (5, pint .i64 a.length), (6, pint .i64 b.length), (7, .row T 1 (a.length + 1)), (26, pint .i64 ((a.length + 1 : Nat) : Int)), (27, pint .i64 i)],
        (T, ⟨22, true, 1, tab (a.length + 1) fun j => if j < i then .row (nms j) 1 (b.length + 1) else pnil⟩) :: rowsH 3 nms (rowV b.length fun _ _ => 0) i⟩) (a.length + 1)
    ⟨fr 198 [(0, .list 1 (a.map pstr)), (1, .list 1 (b.map pstr)), (5, pint .i64 a.length), (6, pint .i64 b.length), (7, .row T 1 (a.length + 1)), (26, pint .i64 ((a.length + 1 : Nat) : Int)), (27, pint .i64 (0 : Nat))],
      [(T, ⟨22, true, 1, tab (a.length + 1) fun _ => pnil⟩)]⟩ (by exact Wk_fr (by simp only [wkb, simprocAttr]) ⟨by simp, by simp [names]⟩)
    ⟨0, fun _ => 0, by omega, by omega, fun i j h => by omega, fun j h => by omega, by rw [rowsH_zero]; simp⟩ ?_
  rintro k τ ⟨i, nms, hi, rfl, hinj, hT, rfl⟩ lp hlp
  repeat' (first
    | (with_reducible apply W_seq_k; intro nx hnx)
    | (with_reducible first | refine wr 105965634715635 ?_ | refine wd (id := 16) 105965634715635 1 (.op 0 true (.op 1 true (.op 2 true (.op 3 true (.op 4 true (.op 5 true (.op 6 true (.op 7 true (.op 8 true (.done)))))))))) (by kernel_rfl) ?_ | refine wd (id := 17) 105965634715635 1 (.op 0 true (.op 1 true (.op 2 true (.op 3 true (.op 4 true (.op 5 true (.op 6 true (.op 7 true (.op 8 true (.op 9 true (.op 10 true (.op 11 true (.op 12 true (.op 13 true (.op 14 true (.op 15 true (.op 16 false (.done)))))))))))))))))) (by kernel_rfl) ?_ | refine wd (id := 18) 105965634715635 1 (.op 0 true (.op 1 true (.op 2 true (.op 3 true (.op 4 true (.op 5 true (.op 6 true (.op 7 true (.op 8 true (.op 9 true (.op 10 true (.op 11 true (.op 12 true (.op 13 true (.op 14 true (.op 15 true (.op 16 true (.op 17 true (.op 18 true (.op 19 true (.op 20 true (.op 21 true (.op 22 true (.op 23 false (.done))))))))))))))))))))))))) (by kernel_rfl) ?_ | refine wd (id := 25) 105965634715635 1 (.op 0 true (.op 1 true (.op 2 true (.op 3 true (.op 4 true (.op 5 true (.op 6 true (.op 7 true (.op 8 true (.op 9 true (.op 10 true (.op 11 true (.op 12 true (.op 13 true (.op 14 true (.op 15 true (.op 16 true (.op 17 true (.op 18 true (.done)))))))))))))))))))) (by kernel_rfl) ?_ | refine wd (id := 33) 105965634715635 1 (.op 0 true (.op 1 true (.op 2 true (.op 3 true (.op 4 true (.op 5 true (.op 6 true (.op 7 true (.op 8 true (.op 9 true (.op 10 true (.op 11 true (.op 12 true (.op 13 true (.op 14 true (.op 15 true (.op 16 true (.op 17 true (.op 18 true (.op 19 true (.op 20 true (.op 21 true (.op 22 true (.op 23 true (.op 24 true (.op 25 true (.op 26 true (.done)))))))))))))))))))))))))))) (by kernel_rfl) ?_ | refine wd (id := 36) 105965634715635 3 (.op 0 true (.op 1 true (.op 2 true (.op 3 true (.op 4 true (.op 5 true (.op 6 true (.op 7 true (.op 8 true (.op 9 true (.op 10 false (.op 11 true (.op 12 true (.op 13 false (.done))))))))))))))) (by kernel_rfl) ?_)
    | ((with_reducible first | (apply WL_op; intro nx hnx) | refine Ev_out ?_ | refine wc ?_ | (apply popsD_op; intro nx hnx) | (refine popsD_alt ?_ ?_; intro nx hnx) | (refine pf hnm fun nm hnm => ?_; try simp only [fmb] at hnm) | (refine pm hnm fun nm hnm => ?_; try simp only [fmb] at hnm) | (refine pmaybe_k ?_; intro bn hbn)); try (simp (maxSteps := 2000000) (disch := omega) only [ev, ↓evp, PV.cells, PV.one, PV.mem?, Value.cells, simprocAttr, hnm, Tryd.tf0, Tryd.tf1, Tryd.tf2, Tryd.tf3, Tryd.tf4, Tryd.tf9, Tryd.tf22, Tryd.tf24, Tryd.tf48, Tryd.tf52, Tryd.tf84, Tryd.tf85, tab_rep, tab_len, tab_set, tab_set1]))
    | ((with_reducible first | apply W_block | apply W_scope | apply WL_nil | apply W_label | apply W_skip | apply W_exit | apply W_ret | apply popsD_done | exact popsD_stop) <;> try simp only [kks, simprocAttr])
    | (with_reducible apply pg <;> (intro hc; (try simp only [hcb, simprocAttr, ne_eq, forall_const] at hc); first | (exfalso; omega) | exact absurd trivial hc | skip))
    | (with_reducible apply hnx; clear hnx nx)
    | (with_reducible refine And.intro (by omega) ?_)
    | (with_reducible refine And.intro ?_ ?_)
    | (clear hnx nx; with_reducible apply hnx; clear hnx nx)
    | (clear hnx nx; clear hnx nx; with_reducible apply hnx; clear hnx nx))
  · obtain ⟨⟨hRT, _⟩, hRr⟩ := hnm
    obtain ⟨nR, hRd⟩ : ∃ R : Int, R = nm := ⟨_, rfl⟩
    subst hRd
    have hRr' : ∀ j, j < i → nms j ≠ nR := fun j hj => of_eq_false (hRr _ (rowsH_names.2 ⟨j, hj, rfl⟩)).2
    have hinj' := hinj.more hRr'
    have hT' : ∀ j, j < i + 1 → (if j = i then nR else nms j) ≠ T := fun j hj => by
      split
      · exact of_eq_false hRT
      · exact hT j (by omega)
    refine hlp _ (a.length + 1 - (i + 1)) _ (by omega) ?_ ⟨i + 1, fun j => if j = i then nR else nms j, by omega, rfl, hinj', hT', rfl⟩
    have e1 : (tab (a.length + 1) fun j => if j < i + 1 then PV.row (if j = i then nR else nms j) 1 (b.length + 1) else pnil) = tab (a.length + 1) fun j => if j = i then PV.row nR 1 (b.length + 1) else if j < i then PV.row (nms j) 1 (b.length + 1) else pnil :=
      tab_congr fun j hj => by
        by_cases h1 : j = i
        · rw [if_pos (by omega), if_pos h1, if_pos h1]
        · rw [if_neg h1, if_neg h1]
          by_cases h2 : j < i
          · rw [if_pos (by omega), if_pos h2]
          · rw [if_neg (by omega), if_neg h2]
    have e2 : rowsH 3 (fun j => if j = i then nR else nms j) (rowV b.length fun _ _ => 0) (i + 1) = (nR, ⟨3, true, 1, rowV b.length (fun _ _ => 0) i⟩) :: rowsH 3 nms (rowV b.length fun _ _ => 0) i := by
      rw [rowsH_succ, if_pos rfl]
      congr 1
      exact rowsH_congr fun j hj => ⟨by rw [if_neg (by omega)], rfl⟩
    refine Wk_fr (by simp only [wkb, simprocAttr]) ?_
    refine ⟨fun x hx => ?_, (Sub_tab (o := default) hinj' hT').2⟩
    rw [e1, e2] at hx
    rcases List.mem_cons.1 hx with rfl | hx
    · exact List.mem_cons_of_mem _ List.mem_cons_self
    · rcases List.mem_cons.1 hx with rfl | hx
      · exact List.mem_cons_self
      · exact List.mem_cons_of_mem _ (List.mem_cons_of_mem _ hx)
  · have hi' : i = a.length + 1 := by omega
    subst hi'
    rw [show (tab (a.length + 1) fun j => if j < a.length + 1 then PV.row (nms j) 1 (b.length + 1) else pnil) = tblV (b.length + 1) (a.length + 1) nms from tab_congr fun j hj => by rw [if_pos hj]]
    clear hlp lp
    refine W_loop_k (fun k τ => ∃ (x : Nat) (V : Nat → Nat → Int), x ≤ a.length ∧ k = a.length - x ∧ (∀ i j, i ≤ a.length → j ≤ b.length → V i j = if a.length ≤ i + x then lcsT a b i j else 0) ∧
        τ = ⟨fr 198 [(0, .list 1 (a.map pstr)), (1, .list 1 (b.map pstr)), (5, pint .i64 a.length), (6, pint .i64 b.length), (7, .row T 1 (a.length + 1)), (37, pint .i64 a.length), (38, pint .i64 x)], (T, ⟨22, true, 1, tblV (b.length + 1) (a.length + 1) nms⟩) :: rowsH 3 nms (rowV b.length V) (a.length + 1)⟩) a.length
      ⟨fr 198 [(0, .list 1 (a.map pstr)), (1, .list 1 (b.map pstr)), (5, pint .i64 a.length), (6, pint .i64 b.length), (7, .row T 1 (a.length + 1)), (37, pint .i64 a.length), (38, pint .i64 (0 : Nat))], (T, ⟨22, true, 1, tblV (b.length + 1) (a.length + 1) nms⟩) :: rowsH 3 nms (rowV b.length fun _ _ => 0) (a.length + 1)⟩ (by exact Wk_fr (by simp only [wkb, simprocAttr]) (Sub_tab hinj hT))
      ⟨0, fun _ _ => 0, by omega, by omega, fun i j hi hj => by
        split
        · rw [lcsT_end a b i j (by omega)]
        · rfl, rfl⟩ ?_
    rintro k τ ⟨x, V, hx, rfl, hV, rfl⟩ lp hlp
    have hT' : ∀ q, q < a.length + 1 → (T = nms q) = False := fun q hq => by
      have := hT q hq
      simp only [eq_iff_iff, iff_false]
      exact fun e => this e.symm
    by_cases hxa : x < a.length
    · obtain ⟨i, hix⟩ : ∃ i : Nat, (a.length : Int) - 1 - x = i := ⟨a.length - 1 - x, by omega⟩
      repeat' (first
    | (with_reducible apply W_seq_k; intro nx hnx)
    | (with_reducible first | refine wr 105965634715635 ?_ | refine wd (id := 16) 105965634715635 1 (.op 0 true (.op 1 true (.op 2 true (.op 3 true (.op 4 true (.op 5 true (.op 6 true (.op 7 true (.op 8 true (.done)))))))))) (by kernel_rfl) ?_ | refine wd (id := 17) 105965634715635 1 (.op 0 true (.op 1 true (.op 2 true (.op 3 true (.op 4 true (.op 5 true (.op 6 true (.op 7 true (.op 8 true (.op 9 true (.op 10 true (.op 11 true (.op 12 true (.op 13 true (.op 14 true (.op 15 true (.op 16 false (.done)))))))))))))))))) (by kernel_rfl) ?_ | refine wd (id := 18) 105965634715635 1 (.op 0 true (.op 1 true (.op 2 true (.op 3 true (.op 4 true (.op 5 true (.op 6 true (.op 7 true (.op 8 true (.op 9 true (.op 10 true (.op 11 true (.op 12 true (.op 13 true (.op 14 true (.op 15 true (.op 16 true (.op 17 true (.op 18 true (.op 19 true (.op 20 true (.op 21 true (.op 22 true (.op 23 false (.done))))))))))))))))))))))))) (by kernel_rfl) ?_ | refine wd (id := 25) 105965634715635 1 (.op 0 true (.op 1 true (.op 2 true (.op 3 true (.op 4 true (.op 5 true (.op 6 true (.op 7 true (.op 8 true (.op 9 true (.op 10 true (.op 11 true (.op 12 true (.op 13 true (.op 14 true (.op 15 true (.op 16 true (.op 17 true (.op 18 true (.done)))))))))))))))))))) (by kernel_rfl) ?_ | refine wd (id := 33) 105965634715635 1 (.op 0 true (.op 1 true (.op 2 true (.op 3 true (.op 4 true (.op 5 true (.op 6 true (.op 7 true (.op 8 true (.op 9 true (.op 10 true (.op 11 true (.op 12 true (.op 13 true (.op 14 true (.op 15 true (.op 16 true (.op 17 true (.op 18 true (.op 19 true (.op 20 true (.op 21 true (.op 22 true (.op 23 true (.op 24 true (.op 25 true (.op 26 true (.done)))))))))))))))))))))))))))) (by kernel_rfl) ?_ | refine wd (id := 36) 105965634715635 3 (.op 0 true (.op 1 true (.op 2 true (.op 3 true (.op 4 true (.op 5 true (.op 6 true (.op 7 true (.op 8 true (.op 9 true (.op 10 false (.op 11 true (.op 12 true (.op 13 false (.done))))))))))))))) (by kernel_rfl) ?_)
    | ((with_reducible first | (apply WL_op; intro nx hnx) | refine Ev_out ?_ | refine wc ?_ | (apply popsD_op; intro nx hnx) | (refine popsD_alt ?_ ?_; intro nx hnx) | (refine pf hnm fun nm hnm => ?_; try simp only [fmb] at hnm) | (refine pm hnm fun nm hnm => ?_; try simp only [fmb] at hnm) | (refine pmaybe_k ?_; intro bn hbn)); try (simp (maxSteps := 2000000) (disch := omega) only [ev, ↓evp, PV.cells, PV.one, PV.mem?, Value.cells, simprocAttr, hnm, Tryd.tf0, Tryd.tf1, Tryd.tf2, Tryd.tf3, Tryd.tf4, Tryd.tf9, Tryd.tf22, Tryd.tf24, Tryd.tf48, Tryd.tf52, Tryd.tf84, Tryd.tf85, tab_len, hix]))
    | ((with_reducible first | apply W_block | apply W_scope | apply WL_nil | apply W_label | apply W_skip | apply W_exit | apply W_ret | apply popsD_done | exact popsD_stop) <;> try simp only [kks, simprocAttr])
    | (with_reducible apply pg <;> (intro hc; (try simp only [hcb, simprocAttr, ne_eq, forall_const] at hc); first | (exfalso; omega) | exact absurd trivial hc | skip))
    | (with_reducible apply hnx; clear hnx nx)
    | (with_reducible refine And.intro (by omega) ?_)
    | (with_reducible refine And.intro ?_ ?_)
    | (clear hnx nx; with_reducible apply hnx; clear hnx nx)
    | (clear hnx nx; clear hnx nx; with_reducible apply hnx; clear hnx nx))
      refine W_loop_k (fun k τ => ∃ (y : Nat) (V : Nat → Nat → Int), y ≤ b.length ∧ k = b.length - y ∧ (∀ i' j, i' ≤ a.length → j ≤ b.length → V i' j = if i < i' ∨ (i = i' ∧ b.length ≤ j + y) then lcsT a b i' j else 0) ∧
        τ = ⟨fr 198 [(0, .list 1 (a.map pstr)), (1, .list 1 (b.map pstr)), (5, pint .i64 a.length), (6, pint .i64 b.length), (7, .row T 1 (a.length + 1)), (10, pint .i64 i), (37, pint .i64 a.length), (38, pint .i64 x), (45, pint .i64 b.length), (46, pint .i64 y)],
          (T, ⟨22, true, 1, tblV (b.length + 1) (a.length + 1) nms⟩) :: rowsH 3 nms (rowV b.length V) (a.length + 1)⟩) b.length
        ⟨fr 198 [(0, .list 1 (a.map pstr)), (1, .list 1 (b.map pstr)), (5, pint .i64 a.length), (6, pint .i64 b.length), (7, .row T 1 (a.length + 1)), (10, pint .i64 i), (37, pint .i64 a.length), (38, pint .i64 x), (45, pint .i64 b.length), (46, pint .i64 (0 : Nat))],
          (T, ⟨22, true, 1, tblV (b.length + 1) (a.length + 1) nms⟩) :: rowsH 3 nms (rowV b.length V) (a.length + 1)⟩ (by exact Wk_fr (by simp only [wkb, simprocAttr]) (Sub_tab hinj hT))
        ⟨0, V, by omega, by omega, fun i' j hi' hj => by
          rw [hV i' j hi' hj]
          by_cases h1 : i < i'
          · rw [if_pos (by omega), if_pos (by omega)]
          · rw [if_neg (by omega)]
            split
            · rw [lcsT_end a b i' j (by omega)]
            · rfl, rfl⟩ ?_
      clear hV V
      rintro k τ ⟨y, V, hy, rfl, hV, rfl⟩ lp2 hlp2
      by_cases hyb : y < b.length
      · obtain ⟨j, hjy⟩ : ∃ j : Nat, (b.length : Int) - 1 - y = j := ⟨b.length - 1 - y, by omega⟩
        have hV1 := lcsT_le a b (i + 1) (j + 1)
        rw [← (show V (i + 1) (j + 1) = lcsT a b (i + 1) (j + 1) by rw [hV _ _ (by omega) (by omega), if_pos (by omega)])] at hV1
        have hVs : V (i + 1) j = lcsT a b (i + 1) j ∧ V i (j + 1) = lcsT a b i (j + 1) ∧ V (i + 1) (j + 1) = lcsT a b (i + 1) (j + 1) :=
          ⟨by rw [hV _ _ (by omega) (by omega), if_pos (by omega)], by rw [hV _ _ (by omega) (by omega), if_pos (by omega)], by rw [hV _ _ (by omega) (by omega), if_pos (by omega)]⟩
        have hfit : ∀ X : Int, X = lcsT a b i j → ∀ i' j', i' ≤ a.length → j' ≤ b.length → (if i' = i ∧ j' = j then X else V i' j') = if i < i' ∨ (i = i' ∧ b.length ≤ j' + (y + 1)) then lcsT a b i' j' else 0 := by
          intro X hX i' j' hi' hj'
          by_cases h : i' = i ∧ j' = j
          · obtain ⟨rfl, rfl⟩ := h
            rw [if_pos ⟨rfl, rfl⟩, if_pos (by omega), hX]
          · rw [if_neg h, hV i' j' hi' hj']
            by_cases h2 : i < i' ∨ (i = i' ∧ b.length ≤ j' + y)
            · rw [if_pos h2, if_pos (by omega)]
            · rw [if_neg h2, if_neg (by omega)]
        repeat' (first
    | (with_reducible apply W_seq_k; intro nx hnx)
    | (with_reducible first | refine wr 105965634715635 ?_ | refine wd (id := 16) 105965634715635 1 (.op 0 true (.op 1 true (.op 2 true (.op 3 true (.op 4 true (.op 5 true (.op 6 true (.op 7 true (.op 8 true (.done)))))))))) (by kernel_rfl) ?_ | refine wd (id := 17) 105965634715635 1 (.op 0 true (.op 1 true (.op 2 true (.op 3 true (.op 4 true (.op 5 true (.op 6 true (.op 7 true (.op 8 true (.op 9 true (.op 10 true (.op 11 true (.op 12 true (.op 13 true (.op 14 true (.op 15 true (.op 16 false (.done)))))))))))))))))) (by kernel_rfl) ?_ | refine wd (id := 18) 105965634715635 1 (.op 0 true (.op 1 true (.op 2 true (.op 3 true (.op 4 true (.op 5 true (.op 6 true (.op 7 true (.op 8 true (.op 9 true (.op 10 true (.op 11 true (.op 12 true (.op 13 true (.op 14 true (.op 15 true (.op 16 true (.op 17 true (.op 18 true (.op 19 true (.op 20 true (.op 21 true (.op 22 true (.op 23 false (.done))))))))))))))))))))))))) (by kernel_rfl) ?_ | refine wd (id := 25) 105965634715635 1 (.op 0 true (.op 1 true (.op 2 true (.op 3 true (.op 4 true (.op 5 true (.op 6 true (.op 7 true (.op 8 true (.op 9 true (.op 10 true (.op 11 true (.op 12 true (.op 13 true (.op 14 true (.op 15 true (.op 16 true (.op 17 true (.op 18 true (.done)))))))))))))))))))) (by kernel_rfl) ?_ | refine wd (id := 33) 105965634715635 1 (.op 0 true (.op 1 true (.op 2 true (.op 3 true (.op 4 true (.op 5 true (.op 6 true (.op 7 true (.op 8 true (.op 9 true (.op 10 true (.op 11 true (.op 12 true (.op 13 true (.op 14 true (.op 15 true (.op 16 true (.op 17 true (.op 18 true (.op 19 true (.op 20 true (.op 21 true (.op 22 true (.op 23 true (.op 24 true (.op 25 true (.op 26 true (.done)))))))))))))))))))))))))))) (by kernel_rfl) ?_ | refine wd (id := 36) 105965634715635 3 (.op 0 true (.op 1 true (.op 2 true (.op 3 true (.op 4 true (.op 5 true (.op 6 true (.op 7 true (.op 8 true (.op 9 true (.op 10 false (.op 11 true (.op 12 true (.op 13 false (.done))))))))))))))) (by kernel_rfl) ?_)
    | ((with_reducible first | (apply WL_op; intro nx hnx) | refine Ev_out ?_ | refine wc ?_ | (apply popsD_op; intro nx hnx) | (refine popsD_alt ?_ ?_; intro nx hnx) | (refine pf hnm fun nm hnm => ?_; try simp only [fmb] at hnm) | (refine pm hnm fun nm hnm => ?_; try simp only [fmb] at hnm) | (refine pmaybe_k ?_; intro bn hbn)); try (simp (maxSteps := 2000000) (disch := omega) only [ev, ↓evp, PV.cells, PV.one, PV.mem?, Value.cells, simprocAttr, hnm, Tryd.tf0, Tryd.tf1, Tryd.tf2, Tryd.tf3, Tryd.tf4, Tryd.tf9, Tryd.tf22, Tryd.tf24, Tryd.tf48, Tryd.tf52, Tryd.tf84, Tryd.tf85, tab_len, hix, hjy, tab_get, tab_set, tab_set1, hT', look_rowsH hinj, upd_rowsH hinj, add_one_ne, ne_add_one]))
    | ((with_reducible first | apply W_block | apply W_scope | apply WL_nil | apply W_label | apply W_skip | apply W_exit | apply W_ret | apply popsD_done | exact popsD_stop) <;> try simp only [kks, simprocAttr])
    | (with_reducible apply pg <;> (intro hc; (try simp only [hcb, simprocAttr, ne_eq, forall_const] at hc); first | (exfalso; omega) | exact absurd trivial hc | skip))
    | (with_reducible apply hnx; clear hnx nx)
    | (with_reducible refine And.intro (by omega) ?_)
    | (with_reducible refine And.intro ?_ ?_)
    | (clear hnx nx; with_reducible apply hnx; clear hnx nx)
    | (clear hnx nx; clear hnx nx; with_reducible apply hnx; clear hnx nx))
        · have hX : V (i + 1) (j + 1) + 1 = lcsT a b i j := by
            have h1 := lcsT_eq a b i j (by omega) (by omega) hc
            omega
          refine hlp2 _ _ _ ?_ ?_ ⟨y + 1, fun i' j' => if i' = i ∧ j' = j then V (i + 1) (j + 1) + 1 else V i' j', by omega, rfl, hfit _ hX, rfl⟩
          · omega
          refine Wk_fr (by simp only [wkb, simprocAttr]) ?_
          exact Sub_eq (congrArg _ (rowsH_congr fun q hq => ⟨rfl, by
            by_cases h : q = i
            · subst h
              simp only [if_true]
              exact tab_congr fun t _ => by by_cases h2 : t = j <;> simp [h2]
            · simp only [h, if_false]
              exact tab_congr fun t _ => by simp [h]⟩)) (Sub_tab hinj hT)
        · have hX : max (V (i + 1) j) (V i (j + 1)) = lcsT a b i j := by
            have h1 := lcsT_ne a b i j (by omega) (by omega) hc
            omega
          refine hlp2 _ _ _ ?_ ?_ ⟨y + 1, fun i' j' => if i' = i ∧ j' = j then max (V (i + 1) j) (V i (j + 1)) else V i' j', by omega, rfl, hfit _ hX, rfl⟩
          · omega
          refine Wk_fr (by simp only [wkb, simprocAttr]) ?_
          exact Sub_eq (congrArg _ (rowsH_congr fun q hq => ⟨rfl, by
            by_cases h : q = i
            · subst h
              simp only [if_true]
              exact tab_congr fun t _ => by by_cases h2 : t = j <;> simp [h2]
            · simp only [h, if_false]
              exact tab_congr fun t _ => by simp [h]⟩)) (Sub_tab hinj hT)
      · repeat' (first
    | (with_reducible apply W_seq_k; intro nx hnx)
    | (with_reducible first | refine wr 105965634715635 ?_ | refine wd (id := 16) 105965634715635 1 (.op 0 true (.op 1 true (.op 2 true (.op 3 true (.op 4 true (.op 5 true (.op 6 true (.op 7 true (.op 8 true (.done)))))))))) (by kernel_rfl) ?_ | refine wd (id := 17) 105965634715635 1 (.op 0 true (.op 1 true (.op 2 true (.op 3 true (.op 4 true (.op 5 true (.op 6 true (.op 7 true (.op 8 true (.op 9 true (.op 10 true (.op 11 true (.op 12 true (.op 13 true (.op 14 true (.op 15 true (.op 16 false (.done)))))))))))))))))) (by kernel_rfl) ?_ | refine wd (id := 18) 105965634715635 1 (.op 0 true (.op 1 true (.op 2 true (.op 3 true (.op 4 true (.op 5 true (.op 6 true (.op 7 true (.op 8 true (.op 9 true (.op 10 true (.op 11 true (.op 12 true (.op 13 true (.op 14 true (.op 15 true (.op 16 true (.op 17 true (.op 18 true (.op 19 true (.op 20 true (.op 21 true (.op 22 true (.op 23 false (.done))))))))))))))))))))))))) (by kernel_rfl) ?_ | refine wd (id := 25) 105965634715635 1 (.op 0 true (.op 1 true (.op 2 true (.op 3 true (.op 4 true (.op 5 true (.op 6 true (.op 7 true (.op 8 true (.op 9 true (.op 10 true (.op 11 true (.op 12 true (.op 13 true (.op 14 true (.op 15 true (.op 16 true (.op 17 true (.op 18 true (.done)))))))))))))))))))) (by kernel_rfl) ?_ | refine wd (id := 33) 105965634715635 1 (.op 0 true (.op 1 true (.op 2 true (.op 3 true (.op 4 true (.op 5 true (.op 6 true (.op 7 true (.op 8 true (.op 9 true (.op 10 true (.op 11 true (.op 12 true (.op 13 true (.op 14 true (.op 15 true (.op 16 true (.op 17 true (.op 18 true (.op 19 true (.op 20 true (.op 21 true (.op 22 true (.op 23 true (.op 24 true (.op 25 true (.op 26 true (.done)))))))))))))))))))))))))))) (by kernel_rfl) ?_ | refine wd (id := 36) 105965634715635 3 (.op 0 true (.op 1 true (.op 2 true (.op 3 true (.op 4 true (.op 5 true (.op 6 true (.op 7 true (.op 8 true (.op 9 true (.op 10 false (.op 11 true (.op 12 true (.op 13 false (.done))))))))))))))) (by kernel_rfl) ?_)
    | ((with_reducible first | (apply WL_op; intro nx hnx) | refine Ev_out ?_ | refine wc ?_ | (apply popsD_op; intro nx hnx) | (refine popsD_alt ?_ ?_; intro nx hnx) | (refine pf hnm fun nm hnm => ?_; try simp only [fmb] at hnm) | (refine pm hnm fun nm hnm => ?_; try simp only [fmb] at hnm) | (refine pmaybe_k ?_; intro bn hbn)); try (simp (maxSteps := 2000000) (disch := omega) only [ev, ↓evp, PV.cells, PV.one, PV.mem?, Value.cells, simprocAttr, hnm, Tryd.tf0, Tryd.tf1, Tryd.tf2, Tryd.tf3, Tryd.tf4, Tryd.tf9, Tryd.tf22, Tryd.tf24, Tryd.tf48, Tryd.tf52, Tryd.tf84, Tryd.tf85, tab_len]))
    | ((with_reducible first | apply W_block | apply W_scope | apply WL_nil | apply W_label | apply W_skip | apply W_exit | apply W_ret | apply popsD_done | exact popsD_stop) <;> try simp only [kks, simprocAttr])
    | (with_reducible apply pg <;> (intro hc; (try simp only [hcb, simprocAttr, ne_eq, forall_const] at hc); first | (exfalso; omega) | exact absurd trivial hc | skip))
    | (with_reducible apply hnx; clear hnx nx)
    | (with_reducible refine And.intro (by omega) ?_)
    | (with_reducible refine And.intro ?_ ?_)
    | (clear hnx nx; with_reducible apply hnx; clear hnx nx)
    | (clear hnx nx; clear hnx nx; with_reducible apply hnx; clear hnx nx))
        refine hlp _ _ _ ?_ ?_ ⟨x + 1, V, by omega, rfl, ?_, rfl⟩
        · omega
        · exact Wk_fr (by simp only [wkb, simprocAttr]) (Sub_tab hinj hT)
        · intro i' j hi' hj
          rw [hV i' j hi' hj]
          by_cases h : i ≤ i'
          · rw [if_pos (by omega), if_pos (by omega)]
          · rw [if_neg (by omega), if_neg (by omega)]
    · repeat' (first
    | (with_reducible apply W_seq_k; intro nx hnx)
    | (with_reducible first | refine wr 105965634715635 ?_ | refine wd (id := 16) 105965634715635 1 (.op 0 true (.op 1 true (.op 2 true (.op 3 true (.op 4 true (.op 5 true (.op 6 true (.op 7 true (.op 8 true (.done)))))))))) (by kernel_rfl) ?_ | refine wd (id := 17) 105965634715635 1 (.op 0 true (.op 1 true (.op 2 true (.op 3 true (.op 4 true (.op 5 true (.op 6 true (.op 7 true (.op 8 true (.op 9 true (.op 10 true (.op 11 true (.op 12 true (.op 13 true (.op 14 true (.op 15 true (.op 16 false (.done)))))))))))))))))) (by kernel_rfl) ?_ | refine wd (id := 18) 105965634715635 1 (.op 0 true (.op 1 true (.op 2 true (.op 3 true (.op 4 true (.op 5 true (.op 6 true (.op 7 true (.op 8 true (.op 9 true (.op 10 true (.op 11 true (.op 12 true (.op 13 true (.op 14 true (.op 15 true (.op 16 true (.op 17 true (.op 18 true (.op 19 true (.op 20 true (.op 21 true (.op 22 true (.op 23 false (.done))))))))))))))))))))))))) (by kernel_rfl) ?_ | refine wd (id := 25) 105965634715635 1 (.op 0 true (.op 1 true (.op 2 true (.op 3 true (.op 4 true (.op 5 true (.op 6 true (.op 7 true (.op 8 true (.op 9 true (.op 10 true (.op 11 true (.op 12 true (.op 13 true (.op 14 true (.op 15 true (.op 16 true (.op 17 true (.op 18 true (.done)))))))))))))))))))) (by kernel_rfl) ?_ | refine wd (id := 33) 105965634715635 1 (.op 0 true (.op 1 true (.op 2 true (.op 3 true (.op 4 true (.op 5 true (.op 6 true (.op 7 true (.op 8 true (.op 9 true (.op 10 true (.op 11 true (.op 12 true (.op 13 true (.op 14 true (.op 15 true (.op 16 true (.op 17 true (.op 18 true (.op 19 true (.op 20 true (.op 21 true (.op 22 true (.op 23 true (.op 24 true (.op 25 true (.op 26 true (.done)))))))))))))))))))))))))))) (by kernel_rfl) ?_ | refine wd (id := 36) 105965634715635 3 (.op 0 true (.op 1 true (.op 2 true (.op 3 true (.op 4 true (.op 5 true (.op 6 true (.op 7 true (.op 8 true (.op 9 true (.op 10 false (.op 11 true (.op 12 true (.op 13 false (.done))))))))))))))) (by kernel_rfl) ?_)
    | ((with_reducible first | (apply WL_op; intro nx hnx) | refine Ev_out ?_ | refine wc ?_ | (apply popsD_op; intro nx hnx) | (refine popsD_alt ?_ ?_; intro nx hnx) | (refine pf hnm fun nm hnm => ?_; try simp only [fmb] at hnm) | (refine pm hnm fun nm hnm => ?_; try simp only [fmb] at hnm) | (refine pmaybe_k ?_; intro bn hbn)); try (simp (maxSteps := 2000000) (disch := omega) only [ev, ↓evp, PV.cells, PV.one, PV.mem?, Value.cells, simprocAttr, hnm, Tryd.tf0, Tryd.tf1, Tryd.tf2, Tryd.tf3, Tryd.tf4, Tryd.tf9, Tryd.tf22, Tryd.tf24, Tryd.tf48, Tryd.tf52, Tryd.tf84, Tryd.tf85, tab_len]))
    | ((with_reducible first | apply W_block | apply W_scope | apply WL_nil | apply W_label | apply W_skip | apply W_exit | apply W_ret | apply popsD_done | exact popsD_stop) <;> try simp only [kks, simprocAttr])
    | (with_reducible apply pg <;> (intro hc; (try simp only [hcb, simprocAttr, ne_eq, forall_const] at hc); first | (exfalso; omega) | exact absurd trivial hc | skip))
    | (with_reducible apply hnx; clear hnx nx)
    | (with_reducible refine And.intro (by omega) ?_)
    | (with_reducible refine And.intro ?_ ?_)
    | (clear hnx nx; with_reducible apply hnx; clear hnx nx)
    | (clear hnx nx; clear hnx nx; with_reducible apply hnx; clear hnx nx))
      have hVe : rowsH 3 nms (rowV b.length V) (a.length + 1) = rowsH 3 nms (rowV b.length (lcsT a b)) (a.length + 1) :=
        rowsH_congr fun q hq => ⟨rfl, tab_congr fun t ht => by rw [hV q t (by omega) (by omega), if_pos (by omega)]⟩
      rw [hVe]
      refine W_x ((Wx.of_wk (τ := ⟨fr 198 [(7, .row T 1 (a.length + 1)), (0, .list 1 (a.map pstr)), (1, .list 1 (b.map pstr)), (5, pint .i64 a.length), (6, pint .i64 b.length), (13, pnil), (14, pbool false), (15, pint .i64 0), (16, pint .i64 0)],
        (T, ⟨22, true, 1, tblV (b.length + 1) (a.length + 1) nms⟩) :: rowsH 3 nms (rowV b.length (lcsT a b)) (a.length + 1)⟩) (by exact Wk_fr (by simp only [wkb, simprocAttr]) (Sub_tab hinj hT))).trans
          (Wx_table (by simp [stab]) hinj hT (fun i hi => tab_len _ _) (fun i hi p hp => by obtain ⟨j, _, rfl⟩ := tab_mem.1 hp; rfl) (fun i hi p hp => by obtain ⟨j, _, rfl⟩ := tab_mem.1 hp; rfl))) ?_
      refine W_adopt_f 13 52 3 (by simp only [fr_getD_cons, Nat.reduceEqDiff, Nat.reduceLT, ↓reduceIte]) fun O _ => ?_
      clear hVe hV hT' hT hinj
      refine W_loop_xs (diffJ a b) (a.length + b.length)
        ⟨fr 198 [(0, .list 1 (a.map pstr)), (1, .list 1 (b.map pstr)), (5, pint .i64 a.length), (6, pint .i64 b.length), (7, tblL a b), (13, .row O 3 0), (14, pbool false), (15, pint .i64 (0 : Nat)), (16, pint .i64 (0 : Nat))], [(O, ⟨52, true, 3, []⟩)]⟩ (.of_wk (by exact Wk_fr (by simp only [wkb, simprocAttr]) ⟨by simp, by simp [names]⟩))
        ⟨0, 0, a.length + b.length, [], O, by omega, by omega, by omega, by omega, .inl ⟨by simp, rfl, by rw [flatC_nil]; rfl⟩⟩ ?_
      rintro k τ ⟨i, j, k0, cl, O, hi, hj, rfl, hk, ⟨hlen, hrun, rfl⟩ | ⟨A, at_, drop, add, hOA, hd0, hd1, hadd, hlen, hrun, rfl⟩⟩ lp hlp
      · refine diff_closed G a b ha hb i j k0 cl O hi hj hk hlen hrun lp hlp _ fun σ' hcl hwk => ?_
        simp only [blockK, seqK, ↓reduceIte]
        refine hnx _ (W_wk hwk ?_)
        clear hnx hlp
        repeat' (first
    | (with_reducible apply W_seq_k; intro nx hnx)
    | (with_reducible first | refine wr 105965634715635 ?_ | refine wd (id := 16) 105965634715635 1 (.op 0 true (.op 1 true (.op 2 true (.op 3 true (.op 4 true (.op 5 true (.op 6 true (.op 7 true (.op 8 true (.done)))))))))) (by kernel_rfl) ?_ | refine wd (id := 17) 105965634715635 1 (.op 0 true (.op 1 true (.op 2 true (.op 3 true (.op 4 true (.op 5 true (.op 6 true (.op 7 true (.op 8 true (.op 9 true (.op 10 true (.op 11 true (.op 12 true (.op 13 true (.op 14 true (.op 15 true (.op 16 false (.done)))))))))))))))))) (by kernel_rfl) ?_ | refine wd (id := 18) 105965634715635 1 (.op 0 true (.op 1 true (.op 2 true (.op 3 true (.op 4 true (.op 5 true (.op 6 true (.op 7 true (.op 8 true (.op 9 true (.op 10 true (.op 11 true (.op 12 true (.op 13 true (.op 14 true (.op 15 true (.op 16 true (.op 17 true (.op 18 true (.op 19 true (.op 20 true (.op 21 true (.op 22 true (.op 23 false (.done))))))))))))))))))))))))) (by kernel_rfl) ?_ | refine wd (id := 25) 105965634715635 1 (.op 0 true (.op 1 true (.op 2 true (.op 3 true (.op 4 true (.op 5 true (.op 6 true (.op 7 true (.op 8 true (.op 9 true (.op 10 true (.op 11 true (.op 12 true (.op 13 true (.op 14 true (.op 15 true (.op 16 true (.op 17 true (.op 18 true (.done)))))))))))))))))))) (by kernel_rfl) ?_ | refine wd (id := 33) 105965634715635 1 (.op 0 true (.op 1 true (.op 2 true (.op 3 true (.op 4 true (.op 5 true (.op 6 true (.op 7 true (.op 8 true (.op 9 true (.op 10 true (.op 11 true (.op 12 true (.op 13 true (.op 14 true (.op 15 true (.op 16 true (.op 17 true (.op 18 true (.op 19 true (.op 20 true (.op 21 true (.op 22 true (.op 23 true (.op 24 true (.op 25 true (.op 26 true (.done)))))))))))))))))))))))))))) (by kernel_rfl) ?_ | refine wd (id := 36) 105965634715635 3 (.op 0 true (.op 1 true (.op 2 true (.op 3 true (.op 4 true (.op 5 true (.op 6 true (.op 7 true (.op 8 true (.op 9 true (.op 10 false (.op 11 true (.op 12 true (.op 13 false (.done))))))))))))))) (by kernel_rfl) ?_)
    | ((with_reducible first | (apply WL_op; intro nx hnx) | refine Ev_out ?_ | refine wc ?_ | (apply popsD_op; intro nx hnx) | (refine popsD_alt ?_ ?_; intro nx hnx) | (refine pf hnm fun nm hnm => ?_; try simp only [fmb] at hnm) | (refine pm hnm fun nm hnm => ?_; try simp only [fmb] at hnm) | (refine pmaybe_k ?_; intro bn hbn)); try (simp (maxSteps := 2000000) (disch := omega) only [ev, ↓evp, PV.cells, PV.one, PV.mem?, Value.cells, simprocAttr, hnm, Tryd.tf0, Tryd.tf1, Tryd.tf2, Tryd.tf3, Tryd.tf4, Tryd.tf9, Tryd.tf22, Tryd.tf24, Tryd.tf48, Tryd.tf52, Tryd.tf84, Tryd.tf85]))
    | ((with_reducible first | apply W_block | apply W_scope | apply WL_nil | apply W_label | apply W_skip | apply W_exit | apply W_ret | apply popsD_done | exact popsD_stop) <;> try simp only [kks, simprocAttr])
    | (with_reducible apply pg <;> (intro hc; (try simp only [hcb, simprocAttr, ne_eq, forall_const] at hc); first | (exfalso; omega) | exact absurd trivial hc | skip))
    | (with_reducible apply hnx; clear hnx nx)
    | (with_reducible refine And.intro (by omega) ?_)
    | (with_reducible refine And.intro ?_ ?_)
    | (clear hnx nx; with_reducible apply hnx; clear hnx nx)
    | (clear hnx nx; clear hnx nx; with_reducible apply hnx; clear hnx nx))
        refine hfin _ _ (Fin_ret1 rfl (Sub_refl (by simp [names])) ?_); simp only [cob, simprocAttr]
        exact ⟨O, cl, .inl ⟨hcl, rfl, rfl⟩⟩
      · have hsub : Sub [(O, ⟨52, true, 3, flatC cl ++ [pint .i64 at_, pint .i64 drop, .row A 1 add.length]⟩), (A, ⟨9, true, 1, add.map pstr⟩)] [(O, ⟨52, true, 3, flatC cl ++ [pint .i64 at_, pint .i64 drop, .row A 1 add.length]⟩), (A, ⟨9, true, 1, add.map pstr⟩)] :=
          Sub_refl (by simp only [names, List.map_cons, List.map_nil]; simp; exact hOA)
        refine diff_open G a b ha hb i j k0 cl O A at_ drop add hi hj hk hOA hd0 hd1 hadd hlen hrun lp hlp _ fun σ' hcl hwk => ?_
        simp only [blockK, seqK, ↓reduceIte]
        refine hnx _ (W_wk hwk ?_)
        clear hnx hlp
        repeat' (first
    | (with_reducible apply W_seq_k; intro nx hnx)
    | (with_reducible first | refine wr 105965634715635 ?_ | refine wd (id := 16) 105965634715635 1 (.op 0 true (.op 1 true (.op 2 true (.op 3 true (.op 4 true (.op 5 true (.op 6 true (.op 7 true (.op 8 true (.done)))))))))) (by kernel_rfl) ?_ | refine wd (id := 17) 105965634715635 1 (.op 0 true (.op 1 true (.op 2 true (.op 3 true (.op 4 true (.op 5 true (.op 6 true (.op 7 true (.op 8 true (.op 9 true (.op 10 true (.op 11 true (.op 12 true (.op 13 true (.op 14 true (.op 15 true (.op 16 false (.done)))))))))))))))))) (by kernel_rfl) ?_ | refine wd (id := 18) 105965634715635 1 (.op 0 true (.op 1 true (.op 2 true (.op 3 true (.op 4 true (.op 5 true (.op 6 true (.op 7 true (.op 8 true (.op 9 true (.op 10 true (.op 11 true (.op 12 true (.op 13 true (.op 14 true (.op 15 true (.op 16 true (.op 17 true (.op 18 true (.op 19 true (.op 20 true (.op 21 true (.op 22 true (.op 23 false (.done))))))))))))))))))))))))) (by kernel_rfl) ?_ | refine wd (id := 25) 105965634715635 1 (.op 0 true (.op 1 true (.op 2 true (.op 3 true (.op 4 true (.op 5 true (.op 6 true (.op 7 true (.op 8 true (.op 9 true (.op 10 true (.op 11 true (.op 12 true (.op 13 true (.op 14 true (.op 15 true (.op 16 true (.op 17 true (.op 18 true (.done)))))))))))))))))))) (by kernel_rfl) ?_ | refine wd (id := 33) 105965634715635 1 (.op 0 true (.op 1 true (.op 2 true (.op 3 true (.op 4 true (.op 5 true (.op 6 true (.op 7 true (.op 8 true (.op 9 true (.op 10 true (.op 11 true (.op 12 true (.op 13 true (.op 14 true (.op 15 true (.op 16 true (.op 17 true (.op 18 true (.op 19 true (.op 20 true (.op 21 true (.op 22 true (.op 23 true (.op 24 true (.op 25 true (.op 26 true (.done)))))))))))))))))))))))))))) (by kernel_rfl) ?_ | refine wd (id := 36) 105965634715635 3 (.op 0 true (.op 1 true (.op 2 true (.op 3 true (.op 4 true (.op 5 true (.op 6 true (.op 7 true (.op 8 true (.op 9 true (.op 10 false (.op 11 true (.op 12 true (.op 13 false (.done))))))))))))))) (by kernel_rfl) ?_)
    | ((with_reducible first | (apply WL_op; intro nx hnx) | refine Ev_out ?_ | refine wc ?_ | (apply popsD_op; intro nx hnx) | (refine popsD_alt ?_ ?_; intro nx hnx) | (refine pf hnm fun nm hnm => ?_; try simp only [fmb] at hnm) | (refine pm hnm fun nm hnm => ?_; try simp only [fmb] at hnm) | (refine pmaybe_k ?_; intro bn hbn)); try (simp (maxSteps := 2000000) (disch := omega) only [ev, ↓evp, PV.cells, PV.one, PV.mem?, Value.cells, simprocAttr, hnm, Tryd.tf0, Tryd.tf1, Tryd.tf2, Tryd.tf3, Tryd.tf4, Tryd.tf9, Tryd.tf22, Tryd.tf24, Tryd.tf48, Tryd.tf52, Tryd.tf84, Tryd.tf85]))
    | ((with_reducible first | apply W_block | apply W_scope | apply WL_nil | apply W_label | apply W_skip | apply W_exit | apply W_ret | apply popsD_done | exact popsD_stop) <;> try simp only [kks, simprocAttr])
    | (with_reducible apply pg <;> (intro hc; (try simp only [hcb, simprocAttr, ne_eq, forall_const] at hc); first | (exfalso; omega) | exact absurd trivial hc | skip))
    | (with_reducible apply hnx; clear hnx nx)
    | (with_reducible refine And.intro (by omega) ?_)
    | (with_reducible refine And.intro ?_ ?_)
    | (clear hnx nx; with_reducible apply hnx; clear hnx nx)
    | (clear hnx nx; clear hnx nx; with_reducible apply hnx; clear hnx nx))
        refine hfin _ _ (Fin_ret1 rfl (hsub) ?_); simp only [cob, simprocAttr]
        exact ⟨O, cl, .inr ⟨A, at_, drop, add, hOA, hcl, rfl, rfl⟩⟩
theorem diff_c (G : Globs) (a b : List (List UInt8)) (ha : a.length ≤ 4000000) (hb : b.length ≤ 4000000) :
    PCalls Tryd.prog G 16 [.list 1 (a.map pstr), .list 1 (b.map pstr)] [] (fun res H => res = .list 3 ((diffL a b).map Chg.pv) ∧ H = []) := by
  refine (diff_r G a b ha hb).px fun res H hR => ?_
  obtain ⟨O, cl, ⟨rfl, rfl, rfl⟩ | ⟨A, at_, drop, add, hOA, hcl, rfl, rfl⟩⟩ := hR
  · exact ⟨_, _, Px_chg _, rfl, rfl⟩
  · have h1 := Px_close (G := G) hOA (t1 := 52) (t2 := 9) (cl.length + 1) cl at_ drop add
    have h2 := Px_chg (G := G) (O := O) (t1 := 52) (cl ++ [⟨at_, drop, add⟩])
    rw [List.length_append, List.length_cons, List.length_nil] at h2
    rw [hcl] at h1 h2
    exact ⟨_, _, h1.trans h2, rfl, rfl⟩
end Go.PM

namespace Go.PM
open Go.Proofs
attribute [local irreducible] W PCalls pcall
theorem wrap_eq_zero (x : Int) (h0 : 0 ≤ x) (h1 : x < 18446744073709551616) : IntKind.i64.wrap x = 0 ↔ x = 0 := by
  rw [IntKind.wrap_i64]; omega
/-- Are changes valid, for n lines, behind the place last? -/
def validL (n : Int) : Int → List Chg → Bool
  | _, [] => true
  | last, c :: r => if c.at_ ≤ last ∨ c.drop < 0 ∨ c.at_ > n ∨ c.drop > n - c.at_ ∨ (c.drop = 0 ∧ c.add.length = 0) then false else validL n (c.at_ + c.drop) r
set_option maxRecDepth 100000 in
set_option maxHeartbeats 2000000 in
theorem dvalid_c (G : Globs) (n : Nat) (l : List Chg) (hn : (n : Int) ≤ 9223372036854775807) (hl : (l.length : Int) ≤ 9223372036854775807) (ha : ∀ c ∈ l, (c.add.length : Int) ≤ 9223372036854775807) :
    PCalls Tryd.prog G 38 [pint .i64 n, .list 3 (l.map Chg.pv)] [] (fun res H => res = pbool (validL n (-1) l) ∧ H = []) := by
  (refine PCalls_f Tryd.func38 rfl Tryd.ntmps38 Tryd.results38 (by simp) fun fin hfin => ?_; have hnm : True := trivial; simp only [ev, simprocAttr])
  repeat' (first
    | (with_reducible apply W_seq_k; intro nx hnx)
    | (with_reducible first | refine wr 1971 ?_)
    | ((with_reducible first | (apply WL_op; intro nx hnx) | refine Ev_out ?_ | refine wc ?_ | (refine pf hnm fun nm hnm => ?_; try simp only [fmb] at hnm) | (refine pm hnm fun nm hnm => ?_; try simp only [fmb] at hnm)); try (simp (maxSteps := 2000000) (disch := omega) only [ev, ↓evp, PV.cells, PV.one, PV.mem?, Value.cells, simprocAttr, hnm, Tryd.tf0, Tryd.tf1, Tryd.tf2, Tryd.tf3, Tryd.tf4, Tryd.tf9, Tryd.tf24, Tryd.tf48, Tryd.tf52]))
    | ((with_reducible first | apply W_block | apply W_scope | apply WL_nil | apply W_label | apply W_skip | apply W_exit | apply W_ret) <;> try simp only [kks, simprocAttr])
    | (with_reducible apply pg <;> (intro hc; (try simp only [hcb, simprocAttr, ne_eq, forall_const] at hc); first | (exfalso; omega) | exact absurd trivial hc | skip))
    | (with_reducible apply hnx; clear hnx nx)
    | (with_reducible refine And.intro (by omega) ?_)
    | (with_reducible refine And.intro ?_ ?_)
    | (clear hnx nx; with_reducible apply hnx; clear hnx nx)
    | (clear hnx nx; clear hnx nx; with_reducible apply hnx; clear hnx nx))
  refine W_loop_k (fun k τ => ∃ (i : Nat) (last : Int), i ≤ l.length ∧ k = l.length - i ∧ -1 ≤ last ∧ last ≤ n ∧ validL n (-1) l = validL n last (l.drop i) ∧ τ = ⟨fr 53 [(0, pint .i64 n), (5, pint .i64 last), (8, .list 3 (l.map Chg.pv)), (9, pint .i64 l.length), (10, pint .i64 i)], []⟩) l.length ⟨fr 53 [(0, pint .i64 n), (5, pint .i64 (-1)), (8, .list 3 (l.map Chg.pv)), (9, pint .i64 l.length), (10, pint .i64 (0 : Nat))], []⟩ (by exact Wk_fr (by simp only [wkb, simprocAttr]) (Sub_nil _)) ⟨0, -1, by omega, by omega, by omega, by omega, rfl, rfl⟩ ?_
  rintro k τ ⟨i, last, hi, rfl, hlast, hlast', hv, rfl⟩ lp hlp
  skip
  repeat' (first
    | (with_reducible apply W_seq_k; intro nx hnx)
    | (with_reducible first | refine wr 1971 ?_)
    | ((with_reducible first | (apply WL_op; intro nx hnx) | refine Ev_out ?_ | refine wc ?_ | (refine pf hnm fun nm hnm => ?_; try simp only [fmb] at hnm) | (refine pm hnm fun nm hnm => ?_; try simp only [fmb] at hnm)); try (simp (maxSteps := 2000000) (disch := omega) only [ev, ↓evp, PV.cells, PV.one, PV.mem?, Value.cells, simprocAttr, hnm, Tryd.tf0, Tryd.tf1, Tryd.tf2, Tryd.tf3, Tryd.tf4, Tryd.tf9, Tryd.tf24, Tryd.tf48, Tryd.tf52]))
    | ((with_reducible first | apply W_block | apply W_scope | apply WL_nil | apply W_label | apply W_skip | apply W_exit | apply W_ret) <;> try simp only [kks, simprocAttr])
    | (with_reducible apply pg <;> (intro hc; (try simp only [hcb, simprocAttr, ne_eq, forall_const] at hc); first | (exfalso; omega) | exact absurd trivial hc | skip))
    | (with_reducible apply hnx; clear hnx nx)
    | (with_reducible refine And.intro (by omega) ?_)
    | (with_reducible refine And.intro ?_ ?_)
    | (clear hnx nx; with_reducible apply hnx; clear hnx nx)
    | (clear hnx nx; clear hnx nx; with_reducible apply hnx; clear hnx nx))
  all_goals first
    | (refine hfin _ _ (Fin_ret1 rfl (Sub_nil _) ?_); simp only [cob, simprocAttr]
       refine ⟨?_, trivial⟩
       have hd : l.drop i = l[i] :: l.drop (i + 1) := List.drop_eq_getElem_cons (by omega)
       have hw := wrap_eq_zero (l[i].drop + (l[i].add.length : Int))
       have hz := ha l[i] (List.getElem_mem _)
       rw [hv, hd, validL, if_pos (by omega)])
    | (have hd : l.drop i = l[i] :: l.drop (i + 1) := List.drop_eq_getElem_cons (by omega)
       have hw := wrap_eq_zero (l[i].drop + (l[i].add.length : Int))
       have hz := ha l[i] (List.getElem_mem _)
       refine hlp _ (l.length - (i+1)) _ (by omega) ?_ ⟨i+1, l[i].at_ + l[i].drop, by omega, rfl, by omega, by omega, ?_, rfl⟩
       · exact Wk_fr (by simp only [wkb, simprocAttr]) (Sub_nil _)
       · rw [hv, hd, validL, if_neg (by omega)])
    | (refine hfin _ _ (Fin_ret1 rfl (Sub_nil _) ?_); simp only [cob, simprocAttr]
       refine ⟨?_, trivial⟩
       have hl' : l.length ≤ i := by omega
       rw [hv, List.drop_of_length_le hl', validL])
end Go.PM

namespace Go.PM
open Go.Proofs
attribute [local irreducible] W PCalls pcall pcallI
/-- What changes make of lines, from a place on. -/
def applyF (u : List (List UInt8)) : Int → List Chg → List (List UInt8)
  | at_, [] => u.drop at_.toNat
  | at_, c :: r => (u.drop at_.toNat).take (c.at_ - at_).toNat ++ (c.add ++ applyF u (c.at_ + c.drop) r)
/-- How many lines changes add. -/
def addsL (l : List Chg) : Nat := (l.map fun c => c.add.length).sum
theorem flat_pstr : ∀ l : List (List UInt8), flat (l.map pstr) = l.map pstr
  | [] => rfl
  | x :: l => by
    have := flat_pstr l
    simp only [flat, List.map_cons, List.flatMap_cons] at this ⊢
    rw [this]
    rfl
theorem flat_dt (u : List (List UInt8)) (a b : Nat) : flat (List.drop a (List.take b (List.map pstr u))) = List.map pstr (List.drop a (List.take b u)) := by
  rw [← List.map_take, ← List.map_drop, flat_pstr]
set_option maxRecDepth 100000 in
set_option maxHeartbeats 2000000 in
theorem apply_r (G : Globs) (u : List (List UInt8)) (l : List Chg) (hl : (l.length : Int) ≤ 1000000000000) (hb : u.length + addsL l ≤ 1000000000000) (ha : ∀ c ∈ l, (c.add.length : Int) ≤ 1000000000000) :
    PCalls Tryd.prog G 17 [.list 1 (u.map pstr), .list 3 (l.map Chg.pv)] [] (fun res H => (validL u.length (-1) l = false ∧ res = .tuple [pnil, pint .i64 1] ∧ H = []) ∨
      (validL u.length (-1) l = true ∧ ∃ n ty, res = .tuple [.row n 1 (applyF u 0 l).length, pint .i64 0] ∧ H = [(n, ⟨ty, true, 1, (applyF u 0 l).map pstr⟩)])) := by
  (refine PCalls_f Tryd.func17 rfl Tryd.ntmps17 Tryd.results17 (by simp) fun fin hfin => ?_; have hnm : True := trivial; simp only [ev, simprocAttr])
  repeat' (first
    | (with_reducible apply W_seq_k; intro nx hnx)
    | (with_reducible first | refine wr 230131 ?_ | refine wd (id := 8) 230131 4 (.op 0 true (.op 1 true (.op 2 true (.op 3 true (.op 4 true (.op 5 true (.alt 6 false (.alt 7 true (.alt 8 true (.op 9 false (.op 10 true (.done))) .stop) .stop) (.alt 7 true (.alt 6 false (.alt 8 true (.op 9 false (.op 10 true (.done))) .stop) (.alt 8 true (.op 6 false (.op 9 false (.op 10 true (.done)))) .stop)) .stop)))))))) (by kernel_rfl) ?_)
    | ((with_reducible first | (apply WL_op; intro nx hnx) | refine Ev_out ?_ | refine wc ?_ | (apply popsD_op; intro nx hnx) | (refine popsD_alt ?_ ?_; intro nx hnx) | (refine pf hnm fun nm hnm => ?_; try simp only [fmb] at hnm) | (refine pm hnm fun nm hnm => ?_; try simp only [fmb] at hnm)); try (simp (maxSteps := 2000000) (disch := omega) only [ev, ↓evp, PV.cells, PV.one, PV.mem?, Value.cells, simprocAttr, hnm, Tryd.tf0, Tryd.tf1, Tryd.tf2, Tryd.tf3, Tryd.tf4, Tryd.tf9, Tryd.tf24, Tryd.tf28, Tryd.tf48, Tryd.tf52, Tryd.call38]))
    | ((with_reducible first | apply W_block | apply W_scope | apply WL_nil | apply W_label | apply W_skip | apply W_exit | apply W_ret | apply popsD_done | exact popsD_stop) <;> try simp only [kks, simprocAttr])
    | (with_reducible apply pg <;> (intro hc; (try simp only [hcb, simprocAttr, ne_eq, forall_const] at hc); first | (exfalso; omega) | exact absurd trivial hc | skip))
    | (with_reducible apply hnx; clear hnx nx)
    | (with_reducible refine And.intro (by omega) ?_)
    | (with_reducible refine And.intro ?_ ?_)
    | (clear hnx nx; with_reducible apply hnx; clear hnx nx)
    | (clear hnx nx; clear hnx nx; with_reducible apply hnx; clear hnx nx))
  refine pcall_k (dvalid_c G u.length l (by omega) (by omega) (fun c hc => by have := ha c hc; omega)) ?_
  rintro _ _ ⟨rfl, rfl⟩ -
  (simp only [PState.put, fr_set, List.nil_append, List.append_nil]; try simp (maxSteps := 2000000) (disch := omega) only [ev, ↓evp, PV.cells, PV.one, PV.mem?, Value.cells, simprocAttr, hnm, Tryd.tf0, Tryd.tf1, Tryd.tf2, Tryd.tf3, Tryd.tf4, Tryd.tf9, Tryd.tf24, Tryd.tf28, Tryd.tf48, Tryd.tf52, Tryd.call38])
  repeat' (first
    | (with_reducible apply W_seq_k; intro nx hnx)
    | (with_reducible first | refine wr 230131 ?_ | refine wd (id := 8) 230131 4 (.op 0 true (.op 1 true (.op 2 true (.op 3 true (.op 4 true (.op 5 true (.alt 6 false (.alt 7 true (.alt 8 true (.op 9 false (.op 10 true (.done))) .stop) .stop) (.alt 7 true (.alt 6 false (.alt 8 true (.op 9 false (.op 10 true (.done))) .stop) (.alt 8 true (.op 6 false (.op 9 false (.op 10 true (.done)))) .stop)) .stop)))))))) (by kernel_rfl) ?_)
    | ((with_reducible first | (apply WL_op; intro nx hnx) | refine Ev_out ?_ | refine wc ?_ | (apply popsD_op; intro nx hnx) | (refine popsD_alt ?_ ?_; intro nx hnx) | (refine pf hnm fun nm hnm => ?_; try simp only [fmb] at hnm) | (refine pm hnm fun nm hnm => ?_; try simp only [fmb] at hnm)); try (simp (maxSteps := 2000000) (disch := omega) only [ev, ↓evp, PV.cells, PV.one, PV.mem?, Value.cells, simprocAttr, hnm, Tryd.tf0, Tryd.tf1, Tryd.tf2, Tryd.tf3, Tryd.tf4, Tryd.tf9, Tryd.tf24, Tryd.tf28, Tryd.tf48, Tryd.tf52, Tryd.call38]))
    | ((with_reducible first | apply W_block | apply W_scope | apply WL_nil | apply W_label | apply W_skip | apply W_exit | apply W_ret | apply popsD_done | exact popsD_stop) <;> try simp only [kks, simprocAttr])
    | (with_reducible apply pg <;> (intro hc; (try simp only [hcb, simprocAttr, ne_eq, forall_const] at hc); first | (exfalso; omega) | exact absurd trivial hc | skip))
    | (with_reducible apply hnx; clear hnx nx)
    | (with_reducible refine And.intro (by omega) ?_)
    | (with_reducible refine And.intro ?_ ?_)
    | (clear hnx nx; with_reducible apply hnx; clear hnx nx)
    | (clear hnx nx; clear hnx nx; with_reducible apply hnx; clear hnx nx))
  · refine hfin _ _ (Fin_ret2 rfl rfl (Sub_nil _) ?_); simp only [cob, simprocAttr]
    exact .inl ⟨hc, by first | rfl | trivial, by first | rfl | trivial⟩
  · have hval := hc
    refine W_adopt_f 6 9 1 (by simp only [fr_getD_cons, Nat.reduceEqDiff, Nat.reduceLT, ↓reduceIte]) fun nm0 _ => ?_
    refine W_loop_k (fun k τ => ∃ (i : Nat) (at_ last : Int) (n : Int) (pre : List (List UInt8)), i ≤ l.length ∧ k = l.length - i ∧ 0 ≤ at_ ∧ at_ ≤ u.length ∧ (last = at_ ∨ (last = -1 ∧ at_ = 0)) ∧ validL u.length last (l.drop i) = true ∧ pre ++ applyF u at_ (l.drop i) = applyF u 0 l ∧ pre.length + addsL (l.drop i) + (u.length - at_.toNat) ≤ u.length + addsL l ∧
        τ = ⟨fr 42 [(0, .list 1 (u.map pstr)), (1, .list 3 (l.map Chg.pv)), (6, .row n 1 pre.length), (7, pint .i64 at_), (15, .list 3 (l.map Chg.pv)), (16, pint .i64 l.length), (17, pint .i64 i)], [(n, ⟨9, true, 1, pre.map pstr⟩)]⟩) l.length
      ⟨fr 42 [(0, .list 1 (u.map pstr)), (1, .list 3 (l.map Chg.pv)), (6, .row nm0 1 0), (7, pint .i64 0), (15, .list 3 (l.map Chg.pv)), (16, pint .i64 l.length), (17, pint .i64 (0 : Nat))], [(nm0, ⟨9, true, 1, []⟩)]⟩ (by exact Wk_fr (by simp only [wkb, simprocAttr]) ⟨by simp, by simp [names]⟩)
      ⟨0, 0, -1, nm0, [], by omega, by omega, by omega, by omega, .inr ⟨rfl, rfl⟩, hc, rfl, by simp [Nat.add_comm], rfl⟩ ?_
    rintro k τ ⟨i, at_, last, n, pre, hi, rfl, hat, hat', hla, hv, hpre, hlen, rfl⟩ lp hlp
    have hst : ∀ h : i < l.length, last < l[i].at_ ∧ 0 ≤ l[i].drop ∧ l[i].at_ ≤ u.length ∧ l[i].drop ≤ u.length - l[i].at_ ∧ validL u.length (l[i].at_ + l[i].drop) (l.drop (i + 1)) = true := fun h => by
      rw [List.drop_eq_getElem_cons h, validL] at hv
      split at hv
      · cases hv
      · exact ⟨by omega, by omega, by omega, by omega, hv⟩
    have had : ∀ h : i < l.length, addsL (l.drop i) = l[i].add.length + addsL (l.drop (i + 1)) := fun h => by
      rw [List.drop_eq_getElem_cons h]
      rfl
    by_cases hil : i < l.length
    · obtain ⟨hs1, hs2, hs3, hs4, hs5⟩ := hst hil
      have had := had hil
      have hap : pre ++ List.drop at_.toNat (List.take l[i].at_.toNat u) ++ l[i].add ++ applyF u (l[i].at_ + l[i].drop) (l.drop (i + 1)) = applyF u 0 l := by
        rw [← hpre, List.drop_eq_getElem_cons hil, applyF, List.drop_take, show l[i].at_.toNat - at_.toNat = (l[i].at_ - at_).toNat by omega]
        simp only [List.append_assoc]
      repeat' (first
    | (with_reducible apply W_seq_k; intro nx hnx)
    | (with_reducible first | refine wr 230131 ?_ | refine wd (id := 8) 230131 4 (.op 0 true (.op 1 true (.op 2 true (.op 3 true (.op 4 true (.op 5 true (.alt 6 false (.alt 7 true (.alt 8 true (.op 9 false (.op 10 true (.done))) .stop) .stop) (.alt 7 true (.alt 6 false (.alt 8 true (.op 9 false (.op 10 true (.done))) .stop) (.alt 8 true (.op 6 false (.op 9 false (.op 10 true (.done)))) .stop)) .stop)))))))) (by kernel_rfl) ?_)
    | ((with_reducible first | (apply WL_op; intro nx hnx) | refine Ev_out ?_ | refine wc ?_ | (apply popsD_op; intro nx hnx) | (refine popsD_alt ?_ ?_; intro nx hnx) | (refine pf hnm fun nm hnm => ?_; try simp only [fmb] at hnm) | (refine pm hnm fun nm hnm => ?_; try simp only [fmb] at hnm)); try (simp (maxSteps := 2000000) (disch := omega) only [ev, ↓evp, PV.cells, PV.one, PV.mem?, Value.cells, simprocAttr, hnm, Tryd.tf0, Tryd.tf1, Tryd.tf2, Tryd.tf3, Tryd.tf4, Tryd.tf9, Tryd.tf24, Tryd.tf28, Tryd.tf48, Tryd.tf52, Tryd.call38, flat_dt, flat_pstr]))
    | ((with_reducible first | apply W_block | apply W_scope | apply WL_nil | apply W_label | apply W_skip | apply W_exit | apply W_ret | apply popsD_done | exact popsD_stop) <;> try simp only [kks, simprocAttr])
    | (with_reducible apply pg <;> (intro hc; (try simp only [hcb, simprocAttr, ne_eq, forall_const] at hc); first | (exfalso; omega) | exact absurd trivial hc | skip))
    | (with_reducible apply hnx; clear hnx nx)
    | (with_reducible refine And.intro (by omega) ?_)
    | (with_reducible refine And.intro ?_ ?_)
    | (clear hnx nx; with_reducible apply hnx; clear hnx nx)
    | (clear hnx nx; clear hnx nx; with_reducible apply hnx; clear hnx nx))
      all_goals
        refine hlp _ (l.length - (i+1)) _ (by omega) ?_ ⟨i+1, l[i].at_ + l[i].drop, l[i].at_ + l[i].drop, nm, pre ++ List.drop at_.toNat (List.take l[i].at_.toNat u) ++ l[i].add, by omega, rfl, by omega, by omega, .inl rfl, hs5, hap, ?_, rfl⟩
        · exact Wk_fr (by simp only [wkb, simprocAttr, List.length_append, List.length_drop, List.length_take]) ⟨by simp, by simp [names]⟩
        · simp only [List.length_append, List.length_drop, List.length_take]
          omega
    · repeat' (first
    | (with_reducible apply W_seq_k; intro nx hnx)
    | (with_reducible first | refine wr 230131 ?_ | refine wd (id := 8) 230131 4 (.op 0 true (.op 1 true (.op 2 true (.op 3 true (.op 4 true (.op 5 true (.alt 6 false (.alt 7 true (.alt 8 true (.op 9 false (.op 10 true (.done))) .stop) .stop) (.alt 7 true (.alt 6 false (.alt 8 true (.op 9 false (.op 10 true (.done))) .stop) (.alt 8 true (.op 6 false (.op 9 false (.op 10 true (.done)))) .stop)) .stop)))))))) (by kernel_rfl) ?_)
    | ((with_reducible first | (apply WL_op; intro nx hnx) | refine Ev_out ?_ | refine wc ?_ | (apply popsD_op; intro nx hnx) | (refine popsD_alt ?_ ?_; intro nx hnx) | (refine pf hnm fun nm hnm => ?_; try simp only [fmb] at hnm) | (refine pm hnm fun nm hnm => ?_; try simp only [fmb] at hnm)); try (simp (maxSteps := 2000000) (disch := omega) only [ev, ↓evp, PV.cells, PV.one, PV.mem?, Value.cells, simprocAttr, hnm, Tryd.tf0, Tryd.tf1, Tryd.tf2, Tryd.tf3, Tryd.tf4, Tryd.tf9, Tryd.tf24, Tryd.tf28, Tryd.tf48, Tryd.tf52, Tryd.call38, flat_dt, flat_pstr]))
    | ((with_reducible first | apply W_block | apply W_scope | apply WL_nil | apply W_label | apply W_skip | apply W_exit | apply W_ret | apply popsD_done | exact popsD_stop) <;> try simp only [kks, simprocAttr])
    | (with_reducible apply pg <;> (intro hc; (try simp only [hcb, simprocAttr, ne_eq, forall_const] at hc); first | (exfalso; omega) | exact absurd trivial hc | skip))
    | (with_reducible apply hnx; clear hnx nx)
    | (with_reducible refine And.intro (by omega) ?_)
    | (with_reducible refine And.intro ?_ ?_)
    | (clear hnx nx; with_reducible apply hnx; clear hnx nx)
    | (clear hnx nx; clear hnx nx; with_reducible apply hnx; clear hnx nx))
      refine hfin _ _ (Fin_ret2 rfl rfl (Sub_refl (by simp [names])) ?_); simp only [cob, simprocAttr]
      refine .inr ⟨hval, nm, 9, ?_⟩
      rw [List.drop_of_length_le (by omega : l.length ≤ i), applyF] at hpre
      rw [← hpre, List.take_of_length_le (Nat.le_refl _)]
      refine ⟨?_, ?_⟩
      · simp
      · simp
end Go.PM

namespace Go.PM
open Go.Proofs
/-- The lines, and the error, that applying changes gives. -/
def applyL (u : List (List UInt8)) (l : List Chg) : List (List UInt8) := if validL u.length (-1) l then applyF u 0 l else []
def applyE (u : List (List UInt8)) (l : List Chg) : Int := if validL u.length (-1) l then 0 else 1
theorem Px_apply {G : Globs} {u : List (List UInt8)} {l : List Chg} {res : PV} {H : Heap} (h : (validL u.length (-1) l = false ∧ res = .tuple [pnil, pint .i64 1] ∧ H = []) ∨
      (validL u.length (-1) l = true ∧ ∃ n ty, res = .tuple [.row n 1 (applyF u 0 l).length, pint .i64 0] ∧ H = [(n, ⟨ty, true, 1, (applyF u 0 l).map pstr⟩)])) :
    ∃ res' H', Px G res H res' H' ∧ res' = .tuple [.list 1 ((applyL u l).map pstr), pint .i64 (applyE u l)] ∧ H' = [] := by
  rcases h with ⟨hv, rfl, rfl⟩ | ⟨hv, n, ty, rfl, rfl⟩
  · refine ⟨_, _, Px.nil2 1 _ _, ?_, rfl⟩
    simp [applyL, applyE, hv]
  · refine ⟨_, _, Px.freeze _ _ n (o := ⟨ty, true, 1, (applyF u 0 l).map pstr⟩) (by simp only [look, if_true]) (by simp [frzOk, del]), ?_, by simp [frzH, del]⟩
    simp [frz, frz1, elemsOf, applyL, applyE, hv]
    rw [List.take_of_length_le (by simp)]
theorem apply_c (G : Globs) (u : List (List UInt8)) (l : List Chg) (hl : (l.length : Int) ≤ 1000000000000) (hb : u.length + addsL l ≤ 1000000000000) (ha : ∀ c ∈ l, (c.add.length : Int) ≤ 1000000000000) :
    PCalls Tryd.prog G 17 [.list 1 (u.map pstr), .list 3 (l.map Chg.pv)] [] (fun res H => res = .tuple [.list 1 ((applyL u l).map pstr), pint .i64 (applyE u l)] ∧ H = []) :=
  (apply_r G u l hl hb ha).px fun _ _ hR => Px_apply hR
end Go.PM

namespace Go.PM
section
variable {α : Type} [DecidableEq α]
theorem lcs_max : ∀ (a b s : List α), s.Sublist a → s.Sublist b → s.length ≤ lcs a b
  | [], b, s, h1, _ => by
    cases h1
    simp
  | x :: a, [], s, _, h2 => by
    cases h2
    simp
  | x :: a, y :: b, s, h1, h2 => by
    have q1 := (lcs_step a (y :: b)).1 x
    have q2 := (lcs_step (x :: a) b).2 y
    cases h1 with
    | cons _ h1 =>
      have := lcs_max a (y :: b) s h1 h2
      omega
    | @cons_cons s' _ _ h1 =>
      cases h2 with
      | cons _ h2 =>
        have := lcs_max (x :: a) b (x :: s') (h1.cons_cons x) h2
        omega
      | cons_cons _ h2 =>
        have := lcs_max a b s' h1 h2
        rw [lcs_cons, if_pos rfl, List.length_cons]
        omega
  termination_by a b => a.length + b.length
end
theorem sizeL_app (l m : List Chg) : sizeL (l ++ m) = sizeL l + sizeL m := by
  unfold sizeL
  rw [List.map_append, List.sum_append]
theorem run_size : ∀ (k : Nat) (i : Int) (cur : Option Chg) (a b : List (List UInt8)), a.length + b.length ≤ k → sizeL (run k i cur a b) = sizeL cur.toList + ((a.length : Int) + b.length - 2 * lcs a b)
  | 0, i, cur, a, b, h => by
    have ha : a = [] := List.length_eq_zero_iff.1 (by omega)
    have hb : b = [] := List.length_eq_zero_iff.1 (by omega)
    subst ha hb
    rw [run_end, lcs_nil]
    simp
  | k + 1, i, cur, [], [], _ => by
    rw [run_end, lcs_nil]
    simp
  | k + 1, i, cur, x :: a, [], h => by
    rw [run, run_size k _ _ _ _ (by simp at h ⊢; omega), lcs_nil', lcs_nil']
    cases cur <;> simp [sizeL] <;> omega
  | k + 1, i, cur, [], y :: b, h => by
    rw [run, run_size k _ _ _ _ (by simp at h ⊢; omega), lcs_nil, lcs_nil]
    cases cur <;> simp [sizeL] <;> omega
  | k + 1, i, cur, x :: a, y :: b, h => by
    simp only [List.length_cons] at h
    rw [run, lcs_cons]
    by_cases hxy : x = y
    · rw [if_pos hxy, if_pos hxy, sizeL_app, run_size k _ _ _ _ (by omega)]
      simp [sizeL]
      omega
    · rw [if_neg hxy, if_neg hxy]
      split
      · rename_i hle
        rw [run_size k _ _ _ _ (by simp; omega), Nat.max_eq_left hle]
        cases cur <;> simp [sizeL] <;> omega
      · rename_i hle
        rw [run_size k _ _ _ _ (by simp; omega), Nat.max_eq_right (by omega)]
        cases cur <;> simp [sizeL] <;> omega
/-- How many lines Diff drops and adds. -/
theorem diffL_size (a b : List (List UInt8)) : sizeL (diffL a b) = (a.length : Int) + b.length - 2 * lcs a b := by
  rw [diffL, run_size _ _ _ _ _ (Nat.le_refl _)]
  simp [sizeL]
end Go.PM

namespace Go.PM
theorem run_valid (u : List (List UInt8)) : ∀ (k i : Nat) (cur : Option Chg) (b : List (List UInt8)) (last : Int), i ≤ u.length → (u.drop i).length + b.length ≤ k → last < (cur.getD ⟨i, 0, []⟩).at_ → 0 ≤ (cur.getD ⟨i, 0, []⟩).drop →
    (cur.getD ⟨i, 0, []⟩).at_ + (cur.getD ⟨i, 0, []⟩).drop = i → (∀ c, cur = some c → ¬ (c.drop = 0 ∧ c.add.length = 0)) → validL u.length last (run k i cur (u.drop i) b) = true
  | k, i, cur, b, last, hi, hk, h1, h2, h3, h4 => by
    have one : validL u.length last cur.toList = true := by
      cases cur with
      | none => rfl
      | some c =>
        have := h4 c rfl
        simp only [Option.getD_some] at h1 h2 h3
        simp only [Option.toList_some]
        rw [validL, if_neg (by omega), validL]
    cases k with
    | zero => exact one
    | succ k =>
      by_cases hiu : i < u.length
      · have hd : u.drop i = u[i] :: u.drop (i + 1) := List.drop_eq_getElem_cons hiu
        have drp : validL u.length last (run k ((i : Int) + 1) (some ⟨(cur.getD ⟨i, 0, []⟩).at_, (cur.getD ⟨i, 0, []⟩).drop + 1, (cur.getD ⟨i, 0, []⟩).add⟩) (u.drop (i + 1)) b) = true := by
          have hk2 : (u.drop i).length = (u.drop (i + 1)).length + 1 := by rw [hd, List.length_cons]
          have := run_valid u k (i + 1) (some ⟨(cur.getD ⟨i, 0, []⟩).at_, (cur.getD ⟨i, 0, []⟩).drop + 1, (cur.getD ⟨i, 0, []⟩).add⟩) b last (by omega) (by omega) (by simpa using h1) (by simp only [Option.getD_some]; omega) (by simp only [Option.getD_some]; omega)
            (fun c hc => by cases hc; simp only; omega)
          simpa using this
        cases b with
        | nil =>
          rw [hd, run]
          exact drp
        | cons y b =>
          have hkl : (u.drop i).length + b.length ≤ k := by simp only [List.length_cons] at hk; omega
          have ad : validL u.length last (run k (i : Int) (some ⟨(cur.getD ⟨i, 0, []⟩).at_, (cur.getD ⟨i, 0, []⟩).drop, (cur.getD ⟨i, 0, []⟩).add ++ [y]⟩) (u.drop i) b) = true :=
            run_valid u k i (some ⟨(cur.getD ⟨i, 0, []⟩).at_, (cur.getD ⟨i, 0, []⟩).drop, (cur.getD ⟨i, 0, []⟩).add ++ [y]⟩) b last hi hkl (by simpa using h1) (by simpa using h2) (by simpa using h3) (fun c hc => by cases hc; simp)
          rw [hd, run]
          split
          · have kp : ∀ last' : Int, last' ≤ i → validL u.length last' (run k ((i : Int) + 1) none (u.drop (i + 1)) b) = true := fun last' hl => by
              have hk2 : (u.drop i).length = (u.drop (i + 1)).length + 1 := by rw [hd, List.length_cons]
              have := run_valid u k (i + 1) none b last' (by omega) (by omega) (by simp only [Option.getD_none]; omega) (by simp) (by simp) (fun c hc => by cases hc)
              simpa using this
            cases cur with
            | none =>
              simp only [Option.getD_none] at h1
              exact kp last (by omega)
            | some c =>
              have h5 := h4 c rfl
              simp only [Option.getD_some] at h1 h2 h3
              simp only [Option.toList_some, List.cons_append, List.nil_append]
              rw [validL, if_neg (by omega), h3]
              exact kp i (by omega)
          · split
            · exact drp
            · rw [← hd]
              exact ad
      · rw [List.drop_of_length_le (by omega)]
        cases b with
        | nil =>
          rw [run]
          exact one
        | cons y b =>
          rw [run]
          have := run_valid u k i (some ⟨(cur.getD ⟨i, 0, []⟩).at_, (cur.getD ⟨i, 0, []⟩).drop, (cur.getD ⟨i, 0, []⟩).add ++ [y]⟩) b last hi (by simp only [List.length_cons] at hk; omega) (by simpa using h1) (by simpa using h2) (by simpa using h3) (fun c hc => by cases hc; simp)
          rw [List.drop_of_length_le (by omega)] at this
          exact this
theorem diffL_valid (u v : List (List UInt8)) : validL u.length (-1) (diffL u v) = true := by
  have := run_valid u (u.length + v.length) 0 none v (-1) (by omega) (by simp) (by simp) (by simp) (by simp) (fun c hc => by cases hc)
  simpa [diffL] using this
theorem run_apply (u : List (List UInt8)) : ∀ (k i : Nat) (cur : Option Chg) (b : List (List UInt8)) (p : Int), i ≤ u.length → (u.drop i).length + b.length ≤ k → 0 ≤ p → p ≤ (cur.getD ⟨i, 0, []⟩).at_ → 0 ≤ (cur.getD ⟨i, 0, []⟩).drop →
    (cur.getD ⟨i, 0, []⟩).at_ + (cur.getD ⟨i, 0, []⟩).drop = i → applyF u p (run k i cur (u.drop i) b) = (u.drop p.toNat).take ((cur.getD ⟨i, 0, []⟩).at_ - p).toNat ++ ((cur.getD ⟨i, 0, []⟩).add ++ b)
  | k, i, cur, b, p, hi, hk, h0, h1, h2, h3 => by
    have one : u.length ≤ i → b = [] → applyF u p cur.toList = (u.drop p.toNat).take ((cur.getD ⟨i, 0, []⟩).at_ - p).toNat ++ ((cur.getD ⟨i, 0, []⟩).add ++ b) := fun hu hb => by
      subst hb
      cases cur with
      | none =>
        simp only [Option.getD_none, Option.toList_none] at *
        rw [applyF, List.take_of_length_le (by rw [List.length_drop]; omega)]
        simp
      | some c =>
        simp only [Option.getD_some, Option.toList_some] at *
        rw [applyF, applyF, List.drop_of_length_le (by omega : u.length ≤ (c.at_ + c.drop).toNat)]
    cases k with
    | zero =>
      have hb : b = [] := List.length_eq_zero_iff.1 (by omega)
      have hu : u.length ≤ i := by rw [List.length_drop] at hk; omega
      have := one hu hb
      simpa [run] using this
    | succ k =>
      by_cases hiu : i < u.length
      · have hd : u.drop i = u[i] :: u.drop (i + 1) := List.drop_eq_getElem_cons hiu
        have hk2 : (u.drop i).length = (u.drop (i + 1)).length + 1 := by rw [hd, List.length_cons]
        have drp : applyF u p (run k ((i : Int) + 1) (some ⟨(cur.getD ⟨i, 0, []⟩).at_, (cur.getD ⟨i, 0, []⟩).drop + 1, (cur.getD ⟨i, 0, []⟩).add⟩) (u.drop (i + 1)) b) = (u.drop p.toNat).take ((cur.getD ⟨i, 0, []⟩).at_ - p).toNat ++ ((cur.getD ⟨i, 0, []⟩).add ++ b) := by
          have := run_apply u k (i + 1) (some ⟨(cur.getD ⟨i, 0, []⟩).at_, (cur.getD ⟨i, 0, []⟩).drop + 1, (cur.getD ⟨i, 0, []⟩).add⟩) b p (by omega) (by omega) h0 (by simpa using h1) (by simp only [Option.getD_some]; omega) (by simp only [Option.getD_some]; omega)
          simpa using this
        cases b with
        | nil =>
          rw [hd, run]
          exact drp
        | cons y b =>
          have hkl : (u.drop i).length + b.length ≤ k := by simp only [List.length_cons] at hk; omega
          have ad : applyF u p (run k (i : Int) (some ⟨(cur.getD ⟨i, 0, []⟩).at_, (cur.getD ⟨i, 0, []⟩).drop, (cur.getD ⟨i, 0, []⟩).add ++ [y]⟩) (u.drop i) b) = (u.drop p.toNat).take ((cur.getD ⟨i, 0, []⟩).at_ - p).toNat ++ ((cur.getD ⟨i, 0, []⟩).add ++ y :: b) := by
            have := run_apply u k i (some ⟨(cur.getD ⟨i, 0, []⟩).at_, (cur.getD ⟨i, 0, []⟩).drop, (cur.getD ⟨i, 0, []⟩).add ++ [y]⟩) b p hi hkl h0 (by simpa using h1) (by simpa using h2) (by simpa using h3)
            rw [this]
            simp
          rw [hd, run]
          split
          · rename_i hxy
            have kp : ∀ p' : Int, 0 ≤ p' → p' ≤ i → applyF u p' (run k ((i : Int) + 1) none (u.drop (i + 1)) b) = (u.drop p'.toNat).take (i - p').toNat ++ y :: b := fun p' hp0 hp => by
              have := run_apply u k (i + 1) none b p' (by omega) (by omega) hp0 (by simp only [Option.getD_none]; omega) (by simp) (by simp)
              simp only [Int.natCast_add, Int.cast_ofNat_Int, Option.getD_none] at this
              rw [this, show ((i : Int) + 1 - p').toNat = (i - p').toNat + 1 by omega, List.take_add_one, List.getElem?_drop, show p'.toNat + (i - p').toNat = i by omega, List.getElem?_eq_getElem hiu, hxy]
              simp
            cases cur with
            | none =>
              simp only [Option.getD_none] at h1
              simp only [Option.getD_none, Option.toList_none, List.nil_append]
              exact kp p h0 h1
            | some c =>
              simp only [Option.getD_some] at h1 h2 h3
              simp only [Option.toList_some, List.cons_append, List.nil_append, Option.getD_some]
              rw [applyF, h3, kp i (by omega) (by omega)]
              simp
          · split
            · exact drp
            · rw [← hd]
              exact ad
      · have hdn : u.drop i = [] := List.drop_of_length_le (by omega)
        rw [hdn]
        cases b with
        | nil =>
          rw [run]
          exact one (by omega) rfl
        | cons y b =>
          rw [run]
          have := run_apply u k i (some ⟨(cur.getD ⟨i, 0, []⟩).at_, (cur.getD ⟨i, 0, []⟩).drop, (cur.getD ⟨i, 0, []⟩).add ++ [y]⟩) b p hi (by simp only [List.length_cons] at hk; omega) h0 (by simpa using h1) (by simpa using h2) (by simpa using h3)
          rw [hdn] at this
          rw [this]
          simp
/-- Apply of Diff leads from the one to the other. -/
theorem diffL_apply (u v : List (List UInt8)) : applyF u 0 (diffL u v) = v := by
  have := run_apply u (u.length + v.length) 0 none v 0 (by omega) (by simp) (by omega) (by simp) (by simp) (by simp)
  simpa [diffL] using this
def dropsL (l : List Chg) : Int := (l.map fun c => c.drop).sum
theorem size_parts : ∀ l : List Chg, sizeL l = dropsL l + addsL l
  | [] => rfl
  | c :: l => by
    have := size_parts l
    have e1 : sizeL (c :: l) = c.drop + (c.add.length : Int) + sizeL l := by simp [sizeL]
    have e2 : dropsL (c :: l) = c.drop + dropsL l := by simp [dropsL]
    have e3 : addsL (c :: l) = c.add.length + addsL l := rfl
    omega
theorem apply_keeps (u : List (List UInt8)) : ∀ (l : List Chg) (last p : Int), validL u.length last l = true → 0 ≤ p → p ≤ u.length → (p = last ∨ (p = 0 ∧ last = -1)) →
    ∃ s : List (List UInt8), s.Sublist (u.drop p.toNat) ∧ s.Sublist (applyF u p l) ∧ (s.length : Int) = u.length - p - dropsL l ∧ ((applyF u p l).length : Int) = u.length - p - dropsL l + addsL l
  | [], last, p, _, h0, h1, _ => by
    refine ⟨u.drop p.toNat, List.Sublist.refl _, by rw [applyF]; exact List.Sublist.refl _, ?_, ?_⟩
    · rw [List.length_drop]
      simp [dropsL]
      omega
    · rw [applyF, List.length_drop]
      simp [dropsL, addsL]
      omega
  | c :: l, last, p, hv, h0, h1, h2 => by
    rw [validL] at hv
    split at hv
    · cases hv
    · rename_i hc
      obtain ⟨s, s1, s2, s3, s4⟩ := apply_keeps u l (c.at_ + c.drop) (c.at_ + c.drop) hv (by omega) (by omega) (.inl rfl)
      have e2 : dropsL (c :: l) = c.drop + dropsL l := by simp [dropsL]
      have e3 : addsL (c :: l) = c.add.length + addsL l := rfl
      have hlen : ((u.drop p.toNat).take (c.at_ - p).toNat).length = (c.at_ - p).toNat := by
        rw [List.length_take, List.length_drop]
        omega
      refine ⟨(u.drop p.toNat).take (c.at_ - p).toNat ++ s, ?_, ?_, ?_, ?_⟩
      · have hsplit : u.drop p.toNat = (u.drop p.toNat).take (c.at_ - p).toNat ++ u.drop c.at_.toNat := by
          conv => lhs; rw [← List.take_append_drop (c.at_ - p).toNat (u.drop p.toNat)]
          rw [List.drop_drop, show p.toNat + (c.at_ - p).toNat = c.at_.toNat by omega]
        have hd : u.drop (c.at_ + c.drop).toNat = (u.drop c.at_.toNat).drop c.drop.toNat := by
          rw [List.drop_drop, show c.at_.toNat + c.drop.toNat = (c.at_ + c.drop).toNat by omega]
        have hs : s.Sublist (u.drop c.at_.toNat) := s1.trans (hd ▸ List.drop_sublist _ _)
        conv => rhs; rw [hsplit]
        exact (List.Sublist.refl _).append hs
      · rw [applyF]
        exact (List.Sublist.refl _).append (s2.trans (List.sublist_append_right _ _))
      · rw [List.length_append, hlen]
        omega
      · rw [applyF, List.length_append, List.length_append, hlen]
        omega
/-- No valid changes that lead from u to w are smaller than what Diff makes. -/
theorem least (u : List (List UInt8)) (c : List Chg) (hc : validL u.length (-1) c = true) : sizeL (diffL u (applyF u 0 c)) ≤ sizeL c := by
  obtain ⟨s, s1, s2, s3, s4⟩ := apply_keeps u c (-1) 0 hc (by omega) (by omega) (.inr ⟨rfl, rfl⟩)
  have h1 := lcs_max u (applyF u 0 c) s (by simpa using s1) s2
  have h2 := size_parts c
  rw [diffL_size]
  omega
end Go.PM

namespace Go.PM
open Go.Proofs
attribute [local irreducible] W PCalls pcall pcallI
theorem map_take_succ {α : Type} (f : α → PV) (l : List α) (i : Nat) (h : i < l.length) : (l.take i).map f ++ [f l[i]] = (l.take (i + 1)).map f := by
  rw [List.take_add_one, List.getElem?_eq_getElem h, List.map_append]
  rfl
def aroundI (n m : Int) : Int := if n < 0 then (-(n+1)).tmod m else n.tmod m
theorem aroundI_range (n m : Int) (hm : 0 < m) : 0 ≤ aroundI n m ∧ aroundI n m < m := by
  unfold aroundI
  split
  · exact ⟨Int.tmod_nonneg _ (by omega), Int.tmod_lt_of_pos _ hm⟩
  · exact ⟨Int.tmod_nonneg _ (by omega), Int.tmod_lt_of_pos _ hm⟩
/-- The letters from which lines are cut. -/
def abc : List UInt8 := [97, 98, 99, 100, 101, 102]
def lineI (x : Int) : List UInt8 := abc.take (aroundI x 6).toNat
set_option maxHeartbeats 1000000 in
theorem lines_r (G : Globs) (l : List Int) (hl : (l.length : Int) ≤ 9223372036854775807) (hs : ∀ x ∈ l, -9223372036854775808 ≤ x ∧ x ≤ 9223372036854775807) :
    PCalls Tryd.prog G 6 [.list 1 (l.map (pint .i64))] [] (fun res H => ∃ n ty, res = .row n 1 ((l.take 14).map fun x => pstr (lineI x)).length ∧ H = [(n, ⟨ty, true, 1, (l.take 14).map fun x => pstr (lineI x)⟩)]) := by
  (refine PCalls_f Tryd.func6 rfl Tryd.ntmps6 Tryd.results6 (by simp) fun fin hfin => ?_; have hnm : True := trivial; simp only [ev, simprocAttr])
  repeat' (first
    | (with_reducible apply W_seq_k; intro nx hnx)
    | (with_reducible first | refine wr 61 ?_)
    | ((with_reducible first | (apply WL_op; intro nx hnx) | refine Ev_out ?_ | refine wc ?_ | (refine pf hnm fun nm hnm => ?_; try simp only [fmb] at hnm) | (refine pm hnm fun nm hnm => ?_; try simp only [fmb] at hnm)); try (simp (maxSteps := 2000000) (disch := omega) only [ev, ↓evp, PV.cells, PV.one, PV.mem?, Value.cells, simprocAttr, hnm, Tryd.tf0, Tryd.tf1, Tryd.tf3, Tryd.tf4, Tryd.tf9, Tryd.tf22, Tryd.tf24, Tryd.call20]))
    | ((with_reducible first | apply W_block | apply W_scope | apply WL_nil | apply W_label | apply W_skip | apply W_exit | apply W_ret) <;> try simp only [kks, simprocAttr])
    | (with_reducible apply pg <;> (intro hc; (try simp only [hcb, simprocAttr, ne_eq, forall_const] at hc); first | (exfalso; omega) | exact absurd trivial hc | skip))
    | (with_reducible apply hnx; clear hnx nx)
    | (with_reducible refine And.intro (by omega) ?_)
    | (with_reducible refine And.intro ?_ ?_)
    | (clear hnx nx; with_reducible apply hnx; clear hnx nx)
    | (clear hnx nx; clear hnx nx; with_reducible apply hnx; clear hnx nx))
  refine W_adopt_f 3 9 1 (by simp only [fr_getD_cons, Nat.reduceEqDiff, Nat.reduceLT, ↓reduceIte]) fun nm0 _ => ?_
  refine W_loop_k (fun k τ => ∃ (i : Nat) (n : Int), i ≤ l.length ∧ i ≤ 14 ∧ k = l.length - i ∧ τ = ⟨fr 27 [(0, .list 1 (l.map (pint .i64))), (3, .row n 1 i), (4, pint .i64 i)], [(n, ⟨9, true, 1, (l.take i).map fun x => pstr (lineI x)⟩)]⟩) l.length ⟨fr 27 [(0, .list 1 (l.map (pint .i64))), (3, .row nm0 1 0), (4, pint .i64 (0 : Nat))], [(nm0, ⟨9, true, 1, []⟩)]⟩ (by exact Wk_fr (by simp only [wkb, simprocAttr]) ⟨by simp, by simp [names]⟩) ⟨0, nm0, by omega, by omega, by omega, rfl⟩ ?_
  rintro k τ ⟨i, n, hi, hi', rfl, rfl⟩ lp hlp
  skip
  repeat' (first
    | (with_reducible apply W_seq_k; intro nx hnx)
    | (with_reducible first | refine wr 61 ?_)
    | ((with_reducible first | (apply WL_op; intro nx hnx) | refine Ev_out ?_ | refine wc ?_ | (refine pf hnm fun nm hnm => ?_; try simp only [fmb] at hnm) | (refine pm hnm fun nm hnm => ?_; try simp only [fmb] at hnm)); try (simp (maxSteps := 2000000) (disch := omega) only [ev, ↓evp, PV.cells, PV.one, PV.mem?, Value.cells, simprocAttr, hnm, Tryd.tf0, Tryd.tf1, Tryd.tf3, Tryd.tf4, Tryd.tf9, Tryd.tf22, Tryd.tf24, Tryd.call20]))
    | ((with_reducible first | apply W_block | apply W_scope | apply WL_nil | apply W_label | apply W_skip | apply W_exit | apply W_ret) <;> try simp only [kks, simprocAttr])
    | (with_reducible apply pg <;> (intro hc; (try simp only [hcb, simprocAttr, ne_eq, forall_const] at hc); first | (exfalso; omega) | exact absurd trivial hc | skip))
    | (with_reducible apply hnx; clear hnx nx)
    | (with_reducible refine And.intro (by omega) ?_)
    | (with_reducible refine And.intro ?_ ?_)
    | (clear hnx nx; with_reducible apply hnx; clear hnx nx)
    | (clear hnx nx; clear hnx nx; with_reducible apply hnx; clear hnx nx))
  · refine pcall_k (around_c G l[i] 6 (hs _ (List.getElem_mem _)).1 (hs _ (List.getElem_mem _)).2 (by omega)) ?_
    rintro _ _ ⟨rfl, rfl⟩ -
    have hr := aroundI_range l[i] 6 (by omega)
    rw [show (if l[i] < 0 then (-(l[i] + 1)).tmod 6 else l[i].tmod 6) = aroundI l[i] 6 from rfl]
    simp (maxSteps := 2000000) (disch := omega) only [ev, ↓evp, PV.cells, PV.one, PV.mem?, Value.cells, simprocAttr, hnm, Tryd.tf0, Tryd.tf1, Tryd.tf3, Tryd.tf4, Tryd.tf9, Tryd.tf22, Tryd.tf24, Tryd.call20]
    repeat' (first
    | (with_reducible apply W_seq_k; intro nx hnx)
    | (with_reducible first | refine wr 61 ?_)
    | ((with_reducible first | (apply WL_op; intro nx hnx) | refine Ev_out ?_ | refine wc ?_ | (refine pf hnm fun nm hnm => ?_; try simp only [fmb] at hnm) | (refine pm hnm fun nm hnm => ?_; try simp only [fmb] at hnm)); try (simp (maxSteps := 2000000) (disch := omega) only [ev, ↓evp, PV.cells, PV.one, PV.mem?, Value.cells, simprocAttr, hnm, Tryd.tf0, Tryd.tf1, Tryd.tf3, Tryd.tf4, Tryd.tf9, Tryd.tf22, Tryd.tf24, Tryd.call20]))
    | ((with_reducible first | apply W_block | apply W_scope | apply WL_nil | apply W_label | apply W_skip | apply W_exit | apply W_ret) <;> try simp only [kks, simprocAttr])
    | (with_reducible apply pg <;> (intro hc; (try simp only [hcb, simprocAttr, ne_eq, forall_const] at hc); first | (exfalso; omega) | exact absurd trivial hc | skip))
    | (with_reducible apply hnx; clear hnx nx)
    | (with_reducible refine And.intro (by omega) ?_)
    | (with_reducible refine And.intro ?_ ?_)
    | (clear hnx nx; with_reducible apply hnx; clear hnx nx)
    | (clear hnx nx; clear hnx nx; with_reducible apply hnx; clear hnx nx))
    rw [show List.take (aroundI l[i] 6).toNat [97, 98, 99, 100, 101, 102] = lineI l[i] from rfl, map_take_succ (fun x => pstr (lineI x)) l i (by omega)]
    refine hlp _ (l.length - (i+1)) _ (by omega) ?_ ⟨i+1, nm, by omega, by omega, rfl, rfl⟩
    exact Wk_fr (by simp only [wkb, simprocAttr]) ⟨by simp, by simp [names]⟩
  · refine hfin _ _ (Fin_ret1 rfl (Sub_refl (by simp [names])) ?_); simp only [cob, simprocAttr]
    have e : i = 14 := by omega
    subst e
    exact ⟨n, 9, by rw [List.length_map, List.length_take, Nat.min_eq_left (by omega)], rfl⟩
  · refine hfin _ _ (Fin_ret1 rfl (Sub_refl (by simp [names])) ?_); simp only [cob, simprocAttr]
    have e : i = l.length := by omega
    subst e
    rw [List.take_of_length_le (Nat.le_refl _), List.take_of_length_le (by omega : l.length ≤ 14)]
    exact ⟨n, 9, by rw [List.length_map], rfl⟩
theorem lines_c (G : Globs) (l : List Int) (hl : (l.length : Int) ≤ 9223372036854775807) (hs : ∀ x ∈ l, -9223372036854775808 ≤ x ∧ x ≤ 9223372036854775807) :
    PCalls Tryd.prog G 6 [.list 1 (l.map (pint .i64))] [] (fun res H => res = .list 1 (((l.take 14).map lineI).map pstr) ∧ H = []) := by
  have := (lines_r G l hl hs).frz_row fun res H h => h
  rw [List.map_map]
  exact this
end Go.PM

namespace Go.PM
/-- ... and makes no more changes than there are lines. -/
theorem run_len : ∀ (k : Nat) (i : Int) (cur : Option Chg) (a b : List (List UInt8)), (run k i cur a b).length ≤ 1 + a.length + b.length ∧ (cur = none → (run k i cur a b).length ≤ a.length + b.length)
  | 0, i, cur, a, b => by cases cur <;> simp [run] <;> omega
  | k + 1, i, cur, [], [] => by cases cur <;> simp [run]
  | k + 1, i, cur, x :: a, [] => by
    have := (run_len k (i + 1) (some ⟨(cur.getD ⟨i, 0, []⟩).at_, (cur.getD ⟨i, 0, []⟩).drop + 1, (cur.getD ⟨i, 0, []⟩).add⟩) a []).1
    rw [run]
    simp only [List.length_cons, List.length_nil] at this ⊢
    exact ⟨by omega, fun _ => by omega⟩
  | k + 1, i, cur, [], y :: b => by
    have := (run_len k i (some ⟨(cur.getD ⟨i, 0, []⟩).at_, (cur.getD ⟨i, 0, []⟩).drop, (cur.getD ⟨i, 0, []⟩).add ++ [y]⟩) [] b).1
    rw [run]
    simp only [List.length_cons, List.length_nil] at this ⊢
    exact ⟨by omega, fun _ => by omega⟩
  | k + 1, i, cur, x :: a, y :: b => by
    have h1 := (run_len k (i + 1) none a b).2 rfl
    have h2 := (run_len k (i + 1) (some ⟨(cur.getD ⟨i, 0, []⟩).at_, (cur.getD ⟨i, 0, []⟩).drop + 1, (cur.getD ⟨i, 0, []⟩).add⟩) a (y :: b)).1
    have h3 := (run_len k i (some ⟨(cur.getD ⟨i, 0, []⟩).at_, (cur.getD ⟨i, 0, []⟩).drop, (cur.getD ⟨i, 0, []⟩).add ++ [y]⟩) (x :: a) b).1
    rw [run]
    simp only [List.length_cons] at h1 h2 h3 ⊢
    split
    · have : cur.toList.length ≤ 1 := by cases cur <;> simp
      simp only [List.length_append]
      refine ⟨by omega, fun e => ?_⟩
      subst e
      simp
      omega
    · split
      · exact ⟨by omega, fun _ => by omega⟩
      · exact ⟨by omega, fun _ => by omega⟩
theorem diffL_len (a b : List (List UInt8)) : (diffL a b).length ≤ a.length + b.length := (run_len _ _ _ _ _).2 rfl
end Go.PM

namespace Go.PM
open Go.Proofs
attribute [local irreducible] W PCalls pcall pcallI WL
def be8 (m : Nat) : List UInt8 := (List.range 8).map fun i => UInt8.ofNat (m / 256 ^ (7 - i) % 256)
/-- The number of zero bytes that are put behind n bytes and one. -/
def zN (n : Nat) : Nat := (119 - n % 64) % 64
def padT (n : Nat) : List UInt8 := 128 :: (List.replicate (zN n) 0 ++ be8 (8 * n))
def H0 : List UInt32 := [1779033703, 3144134277, 1013904242, 2773480762, 1359893119, 2600822924, 528734635, 1541459225]
/-- The state behind k blocks. -/
def blk (s : List UInt32) (b : List UInt8) : Nat → List UInt32
  | 0 => s
  | k + 1 => comp (blk s b k) ((b.drop (64 * k)).take 64)
/-- A byte of the state. -/
def oB (s : List UInt32) (i : Nat) : UInt8 := UInt8.ofNat ((s.getD (i / 4) 0).toNat / 256 ^ (3 - i % 4) % 256)
def outB (s : List UInt32) : List UInt8 := (List.range 32).map (oB s)
def sha (b : List UInt8) : List UInt8 := outB (blk H0 (b ++ padT b.length) ((b.length + (padT b.length).length) / 64))
theorem be8_len (m : Nat) : (be8 m).length = 8 := by simp [be8]
theorem be8_take (m i : Nat) (h : i < 8) : (be8 m).take (i + 1) = (be8 m).take i ++ [UInt8.ofNat (m / 256 ^ (7 - i) % 256)] := by
  rw [List.take_add_one]
  congr 1
  simp [be8, h]
theorem padT_len (n : Nat) : (padT n).length = zN n + 9 := by
  simp only [padT, List.length_cons, List.length_append, List.length_replicate, be8_len]
theorem zN_lt (n : Nat) : zN n < 64 := Nat.mod_lt _ (by omega)
theorem zN_stop (n z : Nat) (h : z ≤ zN n) (h2 : (n + 1 + z) % 64 = 56) : z = zN n := by
  unfold zN at *
  omega
theorem zN_go (n : Nat) : (n + 1 + zN n) % 64 = 56 := by
  unfold zN
  omega
theorem blk_len (s : List UInt32) (b : List UInt8) (h : s.length = 8) : ∀ k, (blk s b k).length = 8
  | 0 => h
  | k + 1 => comp_len _ _ (blk_len s b h k)
theorem outB_len (s : List UInt32) : (outB s).length = 32 := by simp [outB]
theorem sha_len (b : List UInt8) : (sha b).length = 32 := outB_len _
theorem H0_len : H0.length = 8 := rfl
theorem shr8 (m : Nat) (x : Int) (k : Nat) (hx : x = (8 * k : Nat)) (hk : k ≤ 8) : ((m : Nat) : Int).fdiv (2 ^ min x.toNat IntKind.u64.bits) = ((m / 256 ^ k : Nat) : Int) := by
  subst hx
  have h1 : min (((8 * k : Nat)) : Int).toNat IntKind.u64.bits = 8 * k := by
    simp only [IntKind.bits]
    omega
  rw [h1, Int.fdiv_eq_ediv_of_nonneg _ (by exact_mod_cast Nat.zero_le _), show ((2 : Int) ^ (8 * k)) = ((256 ^ k : Nat) : Int) by
    rw [Int.pow_mul]
    norm_cast]
  rfl
theorem shr4 (m : Nat) (x : Int) (k : Nat) (hx : x = (8 * k : Nat)) (hk : k ≤ 4) : ((m : Nat) : Int).fdiv (2 ^ min x.toNat IntKind.u32.bits) = ((m / 256 ^ k : Nat) : Int) := by
  subst hx
  have h1 : min (((8 * k : Nat)) : Int).toNat IntKind.u32.bits = 8 * k := by
    simp only [IntKind.bits]
    omega
  rw [h1, Int.fdiv_eq_ediv_of_nonneg _ (by exact_mod_cast Nat.zero_le _), show ((2 : Int) ^ (8 * k)) = ((256 ^ k : Nat) : Int) by
    rw [Int.pow_mul]
    norm_cast]
  rfl
theorem byte_mod (m : Nat) : pint .u8 (IntKind.u8.wrap (m : Int)) = pbyte (UInt8.ofNat (m % 256)) := by
  rw [wr8mod, byte_of _ (Nat.mod_lt _ (by omega))]
theorem wrn64 (m : Nat) (h : m < 18446744073709551616) : IntKind.u64.wrap (m : Int) = (m : Int) := by
  simp [IntKind.wrap, IntKind.bits, IntKind.signed]
  omega
end Go.PM

namespace Go.PM
open Go.Proofs
attribute [local irreducible] W PCalls pcall pcallI WL
def oC (s : List UInt32) (i : Nat) : List PV := tab 32 fun m => if m < i then pbyte (oB s m) else pint .u8 0
theorem oC_len (s : List UInt32) (i : Nat) : (oC s i).length = 32 := tab_len _ _
theorem oC_zero (s : List UInt32) : oC s 0 = List.replicate 32 (pint .u8 0) := by
  rw [oC, tab_congr (g := fun _ => pint .u8 0) (fun i _ => by simp)]
  simp [tab, List.range_succ]
theorem oC_set (s : List UInt32) (i : Nat) (h : i < 32) : List.take i (oC s i) ++ [pbyte (oB s i)] ++ List.drop (i + 1) (oC s i) = oC s (i + 1) := by
  rw [oC, tab_set h, oC]
  refine tab_congr fun m _ => ?_
  by_cases h1 : m = i
  · subst h1
    rw [if_pos rfl, if_pos (by omega)]
  · rw [if_neg h1]
    rcases Nat.lt_or_ge m i with h2 | h2
    · rw [if_pos h2, if_pos (by omega)]
    · rw [if_neg (by omega), if_neg (by omega)]
theorem oC_full (s : List UInt32) : oC s 32 = (outB s).map pbyte := by
  rw [oC, outB, List.map_map]
  unfold tab
  refine List.map_congr_left fun m hm => ?_
  rw [if_pos (List.mem_range.1 hm)]
  rfl
attribute [irreducible] oC
end Go.PM

namespace Go.PM
open Go.Proofs
attribute [local irreducible] W PCalls pcall pcallI WL
/-- What lies at a place of the block of a stream to which t was added. -/
def qB (t : List UInt8) (i : Nat) : UInt8 := if i < t.length % 64 then t.getD (64 * (t.length / 64) + i) 0 else if 64 ≤ t.length then t.getD (64 * (t.length / 64 - 1) + i) 0 else 0
def qOf (t : List UInt8) : List UInt8 := (List.range 64).map (qB t)
def stS (t : List UInt8) : List UInt32 := blk H0 t (t.length / 64)
/-- The cells of a stream to which t was added. -/
def stC (t : List UInt8) : List PV := (stS t).map pw ++ (qOf t).map pbyte ++ [pint .u64 t.length]
/-- The stream to which t was added. -/
@[reducible] def stP (t : List UInt8) : PV := .agg (stC t)
theorem blk_app (s : List UInt32) (b v : List UInt8) : ∀ k, 64 * k ≤ b.length → blk s (b ++ v) k = blk s b k
  | 0, _ => rfl
  | k + 1, h => by
    have e : ((b ++ v).drop (64 * k)).take 64 = (b.drop (64 * k)).take 64 := by
      rw [List.drop_append_of_le_length (by omega), List.take_append_of_le_length (by rw [List.length_drop]; omega)]
    rw [blk, blk, blk_app s b v k (by omega), e]
theorem stS_len (t : List UInt8) : (stS t).length = 8 := blk_len _ _ H0_len _
theorem qOf_len (t : List UInt8) : (qOf t).length = 64 := by simp [qOf]
theorem qOf_get (t : List UInt8) (i : Nat) (h : i < 64) : (qOf t)[i]? = some (qB t i) := by simp [qOf, h]
theorem getD_left (u v : List UInt8) (i : Nat) (h : i < u.length) : (u ++ v).getD i 0 = u.getD i 0 := by
  rw [List.getD_eq_getElem?_getD, List.getD_eq_getElem?_getD, List.getElem?_append_left h]
theorem getD_right (u v : List UInt8) (i : Nat) (h : u.length ≤ i) : (u ++ v).getD i 0 = v.getD (i - u.length) 0 := by
  rw [List.getD_eq_getElem?_getD, List.getD_eq_getElem?_getD, List.getElem?_append_right h]
theorem qOf_step (u v : List UInt8) (a : Nat) (ha : a = u.length % 64) (h0 : 0 < v.length) (h : a + v.length ≤ 64) : (qOf u).take a ++ v ++ (qOf u).drop (a + v.length) = qOf (u ++ v) := by
  have hl : (u ++ v).length = u.length + v.length := List.length_append
  apply List.ext_getElem?
  intro i
  have ht : ((qOf u).take a).length = a := by rw [List.length_take, qOf_len]; omega
  rcases Nat.lt_or_ge i 64 with hi | hi
  · rw [qOf_get _ _ hi]
    rcases Nat.lt_or_ge i a with h1 | h1
    · rw [List.append_assoc, List.getElem?_append_left (by omega), List.getElem?_take_of_lt h1, qOf_get _ _ hi]
      congr 1
      unfold qB
      rw [if_pos (by omega)]
      rcases Nat.lt_or_ge (a + v.length) 64 with h2 | h2
      · rw [if_pos (by omega), show (u ++ v).length / 64 = u.length / 64 by omega, getD_left _ _ _ (by omega)]
      · rw [if_neg (by omega), if_pos (by omega), show (u ++ v).length / 64 - 1 = u.length / 64 by omega, getD_left _ _ _ (by omega)]
    · rcases Nat.lt_or_ge i (a + v.length) with h2 | h2
      · rw [List.getElem?_append_left (by rw [List.length_append]; omega), List.getElem?_append_right (by omega), ht, List.getElem?_eq_getElem (by omega)]
        congr 1
        have e : ∀ w : Nat, w = u.length / 64 → v[i - a]'(by omega) = (u ++ v).getD (64 * w + i) 0 := by
          intro w hw
          have h3 : 64 * w + i - u.length = i - a := by omega
          rw [getD_right _ _ _ (by omega), h3, List.getD_eq_getElem?_getD, List.getElem?_eq_getElem (by omega)]
          rfl
        unfold qB
        rcases Nat.lt_or_ge (a + v.length) 64 with h3 | h3
        · rw [if_pos (by omega)]
          exact e _ (by omega)
        · rw [if_neg (by omega), if_pos (by omega)]
          exact e _ (by omega)
      · rw [List.getElem?_append_right (by rw [List.length_append]; omega), List.length_append, ht, List.getElem?_drop, show a + v.length + (i - (a + v.length)) = i by omega, qOf_get _ _ hi]
        congr 1
        unfold qB
        by_cases h3 : 64 ≤ u.length
        · rw [if_neg (by omega), if_pos h3, if_neg (by omega), if_pos (by omega), show (u ++ v).length / 64 = u.length / 64 by omega, getD_left _ _ _ (by omega)]
        · rw [if_neg (by omega), if_neg h3, if_neg (by omega), if_neg (by omega)]
  · rw [List.getElem?_eq_none (by simp only [List.length_append, List.length_drop, ht, qOf_len]; omega), List.getElem?_eq_none (by rw [qOf_len]; exact hi)]
theorem stS_keep (u v : List UInt8) (h : u.length % 64 + v.length < 64) : stS (u ++ v) = stS u := by
  unfold stS
  rw [show (u ++ v).length / 64 = u.length / 64 by rw [List.length_append]; omega, blk_app _ _ _ _ (by omega)]
theorem stS_step (u v : List UInt8) (h0 : 0 < v.length) (h : u.length % 64 + v.length = 64) : stS (u ++ v) = comp (stS u) (qOf (u ++ v)) := by
  have hl : (u ++ v).length = u.length + v.length := List.length_append
  unfold stS
  rw [show (u ++ v).length / 64 = u.length / 64 + 1 by omega, blk, blk_app _ _ _ _ (by omega)]
  congr 1
  apply List.ext_getElem?
  intro i
  rcases Nat.lt_or_ge i 64 with hi | hi
  · rw [qOf_get _ _ hi, List.getElem?_take_of_lt hi, List.getElem?_drop, List.getElem?_eq_getElem (by omega)]
    unfold qB
    rw [if_neg (by omega), if_pos (by omega), show (u ++ v).length / 64 - 1 = u.length / 64 by omega, List.getD_eq_getElem?_getD, List.getElem?_eq_getElem (by omega)]
    rfl
  · rw [List.getElem?_eq_none (by rw [List.length_take]; omega), List.getElem?_eq_none (by rw [qOf_len]; exact hi)]
theorem elemsOf_one {cs : List PV} {n : Nat} (h : n ≤ cs.length) : elemsOf 1 cs n = cs.take n := by
  rw [elemsOf, if_pos rfl]
theorem elemsOf_bytes {q : List UInt8} {n : Nat} (hq : q.length = n) (rest : List PV) : elemsOf 1 (q.map pbyte ++ rest) n = q.map pbyte := by
  rw [elemsOf_one (by simp [hq]), List.take_append_of_le_length (by simp [hq]), List.take_of_length_le (by simp [hq])]
/-- Cells of a stream. -/
def st3 (S : List UInt32) (Q : List UInt8) (n : Nat) : List PV := S.map pw ++ Q.map pbyte ++ [pint .u64 n]
theorem stC_st3 (t : List UInt8) : stC t = st3 (stS t) (qOf t) t.length := rfl
section
variable {S S' : List UInt32} {Q : List UInt8} {n n' : Nat} (hS : S.length = 8) (hQ : Q.length = 64)
theorem st3_len (hS : S.length = 8) (hQ : Q.length = 64) : (st3 S Q n).length = 73 := by simp [st3, hS, hQ]
theorem st3_n (hS : S.length = 8) (hQ : Q.length = 64) : (st3 S Q n)[72]? = some (pint .u64 n) := by
  rw [st3, List.getElem?_append_right (by simp [hS, hQ])]
  simp [hS, hQ]
theorem st3_copy (hS : S.length = 8) (hQ : Q.length = 64) (v : List UInt8) (a : Nat) (h : a + v.length ≤ 64) : List.take (8 + a) (st3 S Q n) ++ v.map pbyte ++ List.drop (8 + a + v.length) (st3 S Q n) = st3 S (Q.take a ++ v ++ Q.drop (a + v.length)) n := by
  have e1 : List.take (8 + a) (st3 S Q n) = S.map pw ++ (Q.take a).map pbyte := by
    rw [st3, List.append_assoc, List.take_append, List.length_map, hS, List.take_of_length_le (by rw [List.length_map]; omega), show 8 + a - 8 = a by omega, List.take_append_of_le_length (by rw [List.length_map]; omega), List.map_take]
  have e2 : List.drop (8 + a + v.length) (st3 S Q n) = (Q.drop (a + v.length)).map pbyte ++ [pint .u64 n] := by
    rw [st3, List.append_assoc, List.drop_append, List.length_map, hS, List.drop_of_length_le (by rw [List.length_map]; omega), List.nil_append, show 8 + a + v.length - 8 = a + v.length by omega, List.drop_append_of_le_length (by rw [List.length_map]; omega), List.map_drop]
  rw [e1, e2, st3]
  simp only [List.map_append, List.append_assoc]
theorem st3_setn (hS : S.length = 8) (hQ : Q.length = 64) : List.take 72 (st3 S Q n) ++ [pint .u64 n'] ++ List.drop 73 (st3 S Q n) = st3 S Q n' := by
  rw [List.drop_of_length_le (by rw [st3_len hS hQ]; omega), List.append_nil, st3, List.take_append_of_le_length (by simp [hS, hQ]), List.take_of_length_le (by simp [hS, hQ]), st3]
theorem st3_state (hS : S.length = 8) : List.take 8 (st3 S Q n) = S.map pw := by
  rw [st3, List.append_assoc, List.take_append_of_le_length (by simp [hS]), List.take_of_length_le (by simp [hS])]
theorem st3_sets (hS : S.length = 8) : S'.map pw ++ List.drop 8 (st3 S Q n) = st3 S' Q n := by
  rw [st3, List.append_assoc, List.drop_append_of_le_length (by simp [hS]), List.drop_of_length_le (by simp [hS]), List.nil_append, st3, List.append_assoc]
theorem st3_drop (hS : S.length = 8) : List.drop 8 (st3 S Q n) = Q.map pbyte ++ [pint .u64 n] := by
  rw [st3, List.append_assoc, List.drop_append_of_le_length (by simp [hS]), List.drop_of_length_le (by simp [hS]), List.nil_append]
theorem st3_one : (st3 S Q n).all PV.one = true := by
  rw [st3, List.all_append, List.all_append, all_one_pw, all_one_byte]
  rfl
end
attribute [irreducible] st3
set_option maxRecDepth 100000 in
theorem begin_c (G : Globs) : PCalls Tryd.prog G 35 [] [] (fun res H => res = stP [] ∧ H = []) := by
  (refine PCalls_f Tryd.func35 rfl Tryd.ntmps35 Tryd.results35 (by simp) fun fin hfin => ?_; have hnm : True := trivial; simp only [ev, Nat.reduceAdd, Nat.reduceMul, Nat.reduceSub, Nat.reduceLeDiff, Nat.reduceEqDiff, ↓reduceIte, reduceCtorEq, Nat.reduceLT, Nat.reducePow, Nat.reduceDiv, Nat.reduceMod, Nat.reduceBEq, Int.reduceLT, Int.reduceLE, Int.reduceToNat, Int.reduceAdd, Int.reduceSub, Int.reduceNeg])
  repeat' (first
    | (with_reducible apply W_seq_k; intro nx hnx)
    | (with_reducible first | refine wr 1 ?_)
    | ((with_reducible first | (apply WL_op; intro nx hnx) | refine Ev_out ?_ | refine wc ?_ | (refine pf hnm fun nm hnm => ?_; try simp only [fmb] at hnm) | (refine pm hnm fun nm hnm => ?_; try simp only [fmb] at hnm)); try (simp (maxSteps := 2000000) (disch := omega) only [ev, ↓evp, PV.cells, PV.one, PV.mem?, Value.cells, Nat.reduceAdd, Nat.reduceMul, Nat.reduceSub, Nat.reduceLeDiff, Nat.reduceEqDiff, ↓reduceIte, reduceCtorEq, Nat.reduceLT, Nat.reducePow, Nat.reduceDiv, Nat.reduceMod, Nat.reduceBEq, Int.reduceLT, Int.reduceLE, Int.reduceToNat, Int.reduceAdd, Int.reduceSub, Int.reduceNeg, hnm, Tryd.tf0, Tryd.tf74, Tryd.tf75, Tryd.tf79]))
    | ((with_reducible first | apply W_block | apply W_scope | apply WL_nil | apply W_label | apply W_skip | apply W_exit | apply W_ret) <;> try simp only [kks, Nat.reduceAdd, Nat.reduceMul, Nat.reduceSub, Nat.reduceLeDiff, Nat.reduceEqDiff, ↓reduceIte, reduceCtorEq, Nat.reduceLT, Nat.reducePow, Nat.reduceDiv, Nat.reduceMod, Nat.reduceBEq, Int.reduceLT, Int.reduceLE, Int.reduceToNat, Int.reduceAdd, Int.reduceSub, Int.reduceNeg])
    | (with_reducible apply hnx; clear hnx nx)
    | (with_reducible refine And.intro (by omega) ?_)
    | (with_reducible refine And.intro ?_ ?_)
    | (clear hnx nx; with_reducible apply hnx; clear hnx nx)
    | (clear hnx nx; clear hnx nx; with_reducible apply hnx; clear hnx nx))
  refine hfin _ _ (Fin_cell (res := stP []) Tryd.tf79 (n := nm) (off := 0) (o := ⟨79, false, 0, stC []⟩) (by simp only [fr_getD_cons, Nat.reduceEqDiff, Nat.reduceLT, ↓reduceIte]) (by simp only [look, ↓reduceIte]; rfl) ?_ (Sub_nil _) ⟨rfl, rfl⟩)
  have h1 := st3_len (n := ([] : List UInt8).length) (stS_len []) (qOf_len [])
  have h2 := st3_one (S := stS []) (Q := qOf []) (n := ([] : List UInt8).length)
  rw [stC_st3]
  simp only [pload, h1, h2]
  rw [if_pos trivial]
  refine ⟨by omega, ?_⟩
  rw [List.drop_zero, List.take_of_length_le (by omega)]
  exact congrArg PV.agg (stC_st3 [])
set_option maxRecDepth 100000 in
set_option maxHeartbeats 8000000 in
theorem add_c (G : Globs) (hG : G 0 = .iptr (KS.map pw) 0) (t x : List UInt8) (hb : t.length + x.length ≤ 4294967296) : PCalls Tryd.prog G 36 [stP t, pstr x] [] (fun res H => res = stP (t ++ x) ∧ H = []) := by
  have hst := st3_len (n := t.length) (stS_len t) (qOf_len t)
  have hone := st3_one (S := stS t) (Q := qOf t) (n := t.length)
  unfold stP
  rw [stC_st3 t]
  obtain ⟨zs, hzs⟩ : ∃ zs, zs = List.replicate 8 (pint .u32 0) ++ List.replicate 64 (pint .u8 0) ++ [pint .u64 0] := ⟨_, rfl⟩
  have hzl : zs.length = 73 := by rw [hzs]; rfl
  (refine PCalls_f Tryd.func36 rfl Tryd.ntmps36 Tryd.results36 (by simp) fun fin hfin => ?_; have hnm : True := trivial; simp only [ev, Nat.reduceAdd, Nat.reduceMul, Nat.reduceSub, Nat.reduceLeDiff, Nat.reduceEqDiff, ↓reduceIte, reduceCtorEq, Nat.reduceLT, Nat.reducePow, Nat.reduceDiv, Nat.reduceMod, Nat.reduceBEq, Int.reduceLT, Int.reduceLE, Int.reduceToNat, Int.reduceAdd, Int.reduceSub, Int.reduceNeg])
  repeat' (first
    | (with_reducible apply W_seq_k; intro nx hnx)
    | (with_reducible first | refine wr 119 ?_ | refine wd (id := 7) 119 2 (.op 0 true (.op 1 true (.op 2 true (.op 3 true (.op 4 false (.op 5 true (.op 6 false (.done)))))))) (by kernel_rfl) ?_)
    | ((with_reducible first | (apply WL_op; intro nx hnx) | refine Ev_out ?_ | refine wc ?_ | (apply popsD_op; intro nx hnx) | (refine popsD_alt ?_ ?_; intro nx hnx) | (refine pf hnm fun nm hnm => ?_; try simp only [fmb] at hnm) | (refine pm hnm fun nm hnm => ?_; try simp only [fmb] at hnm)); try (simp (maxSteps := 2000000) (disch := omega) only [ev, ↓evp, PV.cells, PV.one, PV.mem?, Value.cells, Nat.reduceAdd, Nat.reduceMul, Nat.reduceSub, Nat.reduceLeDiff, Nat.reduceEqDiff, ↓reduceIte, reduceCtorEq, Nat.reduceLT, Nat.reducePow, Nat.reduceDiv, Nat.reduceMod, Nat.reduceBEq, Int.reduceLT, Int.reduceLE, Int.reduceToNat, Int.reduceAdd, Int.reduceSub, Int.reduceNeg, hnm, Tryd.tf0, Tryd.tf1, Tryd.tf2, Tryd.tf3, Tryd.tf4, Tryd.tf5, Tryd.tf9, Tryd.tf27, Tryd.tf74, Tryd.tf75, Tryd.tf76, Tryd.tf77, Tryd.tf79, Tryd.call64, hst, hone]))
    | ((with_reducible first | apply W_block | apply W_scope | apply WL_nil | apply W_label | apply W_skip | apply W_exit | apply W_ret | apply popsD_done | exact popsD_stop) <;> try simp only [kks, Nat.reduceAdd, Nat.reduceMul, Nat.reduceSub, Nat.reduceLeDiff, Nat.reduceEqDiff, ↓reduceIte, reduceCtorEq, Nat.reduceLT, Nat.reducePow, Nat.reduceDiv, Nat.reduceMod, Nat.reduceBEq, Int.reduceLT, Int.reduceLE, Int.reduceToNat, Int.reduceAdd, Int.reduceSub, Int.reduceNeg])
    | (with_reducible apply pg <;> (intro hc; (try simp only [hcb, Nat.reduceAdd, Nat.reduceMul, Nat.reduceSub, Nat.reduceLeDiff, Nat.reduceEqDiff, ↓reduceIte, reduceCtorEq, Nat.reduceLT, Nat.reducePow, Nat.reduceDiv, Nat.reduceMod, Nat.reduceBEq, Int.reduceLT, Int.reduceLE, Int.reduceToNat, Int.reduceAdd, Int.reduceSub, Int.reduceNeg, ne_eq, forall_const] at hc); first | (exfalso; omega) | exact absurd trivial hc | skip))
    | (with_reducible apply hnx; clear hnx nx)
    | (with_reducible refine And.intro (by omega) ?_)
    | (with_reducible refine And.intro ?_ ?_)
    | (clear hnx nx; with_reducible apply hnx; clear hnx nx)
    | (clear hnx nx; clear hnx nx; with_reducible apply hnx; clear hnx nx))
  rename_i N2 _
  obtain ⟨N4, hN4'⟩ : ∃ N, N = nm := ⟨_, rfl⟩
  subst hN4'
  have hN : N4 ≠ N2 := by simp only [ne_eq, hnm, not_false_eq_true]
  have hN1 : ¬ N4 = N2 := hN
  have hN3 : ¬ N2 = N4 := fun e => hN e.symm
  clear hnm
  have hnm : True := trivial
  have hnd : [N4, N2].Nodup := by simp [hN1]
  refine W_loop_k (fun z τ => ∃ j : Nat, j ≤ x.length ∧ z = x.length - j ∧ τ = ⟨fr 38 [(4, .ptr N4 0), (2, .ptr N2 0), (1, pstr (x.drop j))], [(N4, ⟨79, false, 0, zs⟩), (N2, ⟨79, false, 0, st3 (stS (t ++ x.take j)) (qOf (t ++ x.take j)) (t ++ x.take j).length⟩)]⟩) x.length
    ⟨fr 38 [(4, .ptr N4 0), (2, .ptr N2 0), (1, pstr x)], [(N4, ⟨79, false, 0, zs⟩), (N2, ⟨79, false, 0, st3 (stS t) (qOf t) t.length⟩)]⟩ (by
    rw [hzs]
    refine Wk_fr (by simp only [wkb, Nat.reduceAdd, Nat.reduceMul, Nat.reduceSub, Nat.reduceLeDiff, Nat.reduceEqDiff, ↓reduceIte, reduceCtorEq, Nat.reduceLT, Nat.reducePow, Nat.reduceDiv, Nat.reduceMod, Nat.reduceBEq, Int.reduceLT, Int.reduceLE, Int.reduceToNat, Int.reduceAdd, Int.reduceSub, Int.reduceNeg]) ?_
    exact ⟨by simp [List.replicate_succ], by simpa [names] using hN1⟩) ⟨0, by omega, by omega, by simp⟩ ?_
  rintro z τ ⟨j, hj, rfl, rfl⟩ lp hlp
  obtain ⟨r, hr⟩ : ∃ r, r = x.drop j := ⟨_, rfl⟩
  have hrl : r.length = x.length - j := by rw [hr, List.length_drop]
  obtain ⟨u, hu⟩ : ∃ u, u = t ++ x.take j := ⟨_, rfl⟩
  have hul : u.length = t.length + j := by rw [hu, List.length_append, List.length_take]; omega
  rw [← hr, ← hu]
  have hS := stS_len u
  have hQ := qOf_len u
  have hl3 := st3_len (n := u.length) hS hQ
  have hg3 := st3_n (n := u.length) hS hQ
  by_cases hre : r = []
  · have hjx : t ++ x = u := by
      rw [hu, List.take_of_length_le (by rw [hre] at hrl; simp only [List.length_nil] at hrl; omega)]
    have htz : List.drop 73 zs = [] := List.drop_of_length_le (by omega)
    have htu : List.take 73 (st3 (stS u) (qOf u) u.length) = st3 (stS u) (qOf u) u.length := List.take_of_length_le (by omega)
    have h1u := st3_one (S := stS u) (Q := qOf u) (n := u.length)
    repeat' (first
    | (with_reducible apply W_seq_k; intro nx hnx)
    | (with_reducible first | refine wr 119 ?_ | refine wd (id := 7) 119 2 (.op 0 true (.op 1 true (.op 2 true (.op 3 true (.op 4 false (.op 5 true (.op 6 false (.done)))))))) (by kernel_rfl) ?_)
    | ((with_reducible first | (apply WL_op; intro nx hnx) | refine Ev_out ?_ | refine wc ?_ | (apply popsD_op; intro nx hnx) | (refine popsD_alt ?_ ?_; intro nx hnx) | (refine pf hnm fun nm hnm => ?_; try simp only [fmb] at hnm) | (refine pm hnm fun nm hnm => ?_; try simp only [fmb] at hnm)); try (simp (maxSteps := 2000000) (disch := omega) only [ev, ↓evp, PV.cells, PV.one, PV.mem?, Value.cells, Nat.reduceAdd, Nat.reduceMul, Nat.reduceSub, Nat.reduceLeDiff, Nat.reduceEqDiff, ↓reduceIte, reduceCtorEq, Nat.reduceLT, Nat.reducePow, Nat.reduceDiv, Nat.reduceMod, Nat.reduceBEq, Int.reduceLT, Int.reduceLE, Int.reduceToNat, Int.reduceAdd, Int.reduceSub, Int.reduceNeg, hnm, Tryd.tf0, Tryd.tf1, Tryd.tf2, Tryd.tf3, Tryd.tf4, Tryd.tf5, Tryd.tf9, Tryd.tf27, Tryd.tf74, Tryd.tf75, Tryd.tf76, Tryd.tf77, Tryd.tf79, Tryd.call64, hN1, hN3, hl3, hg3, hzl, htz, htu, h1u]))
    | ((with_reducible first | apply W_block | apply W_scope | apply WL_nil | apply W_label | apply W_skip | apply W_exit | apply W_ret | apply popsD_done | exact popsD_stop) <;> try simp only [kks, Nat.reduceAdd, Nat.reduceMul, Nat.reduceSub, Nat.reduceLeDiff, Nat.reduceEqDiff, ↓reduceIte, reduceCtorEq, Nat.reduceLT, Nat.reducePow, Nat.reduceDiv, Nat.reduceMod, Nat.reduceBEq, Int.reduceLT, Int.reduceLE, Int.reduceToNat, Int.reduceAdd, Int.reduceSub, Int.reduceNeg])
    | (with_reducible apply pg <;> (intro hc; (try simp only [hcb, Nat.reduceAdd, Nat.reduceMul, Nat.reduceSub, Nat.reduceLeDiff, Nat.reduceEqDiff, ↓reduceIte, reduceCtorEq, Nat.reduceLT, Nat.reducePow, Nat.reduceDiv, Nat.reduceMod, Nat.reduceBEq, Int.reduceLT, Int.reduceLE, Int.reduceToNat, Int.reduceAdd, Int.reduceSub, Int.reduceNeg, ne_eq, forall_const] at hc); first | (exfalso; omega) | exact absurd trivial hc | skip))
    | (with_reducible apply hnx; clear hnx nx)
    | (with_reducible refine And.intro (by omega) ?_)
    | (with_reducible refine And.intro ?_ ?_)
    | (clear hnx nx; with_reducible apply hnx; clear hnx nx)
    | (clear hnx nx; clear hnx nx; with_reducible apply hnx; clear hnx nx))
    all_goals first
      | exact absurd hre ‹¬ r = []›
      | (exfalso
         omega)
      | skip
    refine hfin _ _ (Fin_cell (res := stP u) Tryd.tf79 (n := N4) (off := 0) (o := ⟨79, false, 0, stC u⟩) (by simp only [fr_getD_cons, Nat.reduceEqDiff, Nat.reduceLT, ↓reduceIte]) (by rw [stC_st3]; simp [look, hN1]) ?_ (Sub_nil _) ⟨by rw [hjx], rfl⟩)
    rw [stC_st3]
    simp only [pload, hl3, h1u]
    rw [if_pos trivial]
    refine ⟨by omega, ?_⟩
    rw [List.drop_zero, htu]
    exact congrArg PV.agg (stC_st3 u)
  · have hr0 : 0 < r.length := List.length_pos_iff.2 hre
    have tm : (u.length : Int).tmod 64 = ((u.length % 64 : Nat) : Int) := by rw [Int.tmod_eq_emod_of_nonneg (by omega)]; omega
    obtain ⟨a, ha⟩ : ∃ a, a = u.length % 64 := ⟨_, rfl⟩
    rw [← ha] at tm
    have ha64 : (64 - (a : Int)).toNat = 64 - a := by omega
    obtain ⟨k, hk⟩ : ∃ k, min r.length (64 - a) = k := ⟨_, rfl⟩
    have htr : List.take r.length r = r := List.take_length
    obtain ⟨v, hv⟩ : ∃ v, v = r.take k := ⟨_, rfl⟩
    have hvl : v.length = k := by rw [hv, List.length_take]; omega
    have hvb : List.take k (bytes r) = v.map pbyte := by
      rw [hv, List.map_take]
      rfl
    have hcp := st3_copy (n := u.length) hS hQ v a (by omega)
    rw [qOf_step u v a ha (by omega) (by omega), hvl] at hcp
    have huv : (u ++ v).length = u.length + k := by rw [List.length_append, hvl]
    have htk : u ++ v = t ++ x.take (j + k) := by
      rw [hu, hv, hr, List.append_assoc, ← List.take_add]
    have hkeep : ¬ a + k = 64 → stS (u ++ v) = stS u := fun h => stS_keep u v (by omega)
    have hstep : a + k = 64 → stS (u ++ v) = comp (stS u) (qOf (u ++ v)) := fun h => stS_step u v (by omega) (by omega)
    obtain ⟨y, hy⟩ : ∃ y, y = u ++ v := ⟨_, rfl⟩
    rw [← hy] at hcp huv htk hkeep hstep
    have hQ2 := qOf_len y
    have hg4 := st3_n (n := u.length) hS hQ2
    have hl4 := st3_len (n := u.length) hS hQ2
    have hwk : IntKind.u64.wrap (k : Int) = (k : Int) := wrn64 k (by omega)
    have hwn : IntKind.u64.wrap ((u.length : Int) + (k : Int)) = ((y.length : Nat) : Int) := by
      rw [huv, show (u.length : Int) + (k : Int) = ((u.length + k : Nat) : Int) by omega]
      exact wrn64 _ (by omega)
    have hsn := st3_setn (n := u.length) (n' := y.length) hS hQ2
    have hxd : r.drop k = x.drop (j + k) := by rw [hr, List.drop_drop]
    by_cases hf : a + k = 64
    · have hl5 := st3_len (n := y.length) hS hQ2
      have hcm := compress_c G hG (stS u) hS (qOf y) hQ2
      have hst5 := st3_state (S := stS u) (Q := qOf y) (n := y.length) hS
      repeat' (first
    | (with_reducible apply W_seq_k; intro nx hnx)
    | (with_reducible first | refine wr 119 ?_ | refine wd (id := 7) 119 2 (.op 0 true (.op 1 true (.op 2 true (.op 3 true (.op 4 false (.op 5 true (.op 6 false (.done)))))))) (by kernel_rfl) ?_)
    | ((with_reducible first | (apply WL_op; intro nx hnx) | refine Ev_out ?_ | refine wc ?_ | (apply popsD_op; intro nx hnx) | (refine popsD_alt ?_ ?_; intro nx hnx) | (refine pf hnm fun nm hnm => ?_; try simp only [fmb] at hnm) | (refine pm hnm fun nm hnm => ?_; try simp only [fmb] at hnm)); try (simp (maxSteps := 2000000) (disch := omega) only [ev, ↓evp, PV.cells, PV.one, PV.mem?, Value.cells, Nat.reduceAdd, Nat.reduceMul, Nat.reduceSub, Nat.reduceLeDiff, Nat.reduceEqDiff, ↓reduceIte, reduceCtorEq, Nat.reduceLT, Nat.reducePow, Nat.reduceDiv, Nat.reduceMod, Nat.reduceBEq, Int.reduceLT, Int.reduceLE, Int.reduceToNat, Int.reduceAdd, Int.reduceSub, Int.reduceNeg, hnm, Tryd.tf0, Tryd.tf1, Tryd.tf2, Tryd.tf3, Tryd.tf4, Tryd.tf5, Tryd.tf9, Tryd.tf27, Tryd.tf74, Tryd.tf75, Tryd.tf76, Tryd.tf77, Tryd.tf79, Tryd.call64, hN1, hN3, hl3, hg3, hl4, hg4, hl5, tm, ha64, hk, htr, hvb, hcp, hwk, hwn, hsn, hst5]))
    | ((with_reducible first | apply W_block | apply W_scope | apply WL_nil | apply W_label | apply W_skip | apply W_exit | apply W_ret | apply popsD_done | exact popsD_stop) <;> try simp only [kks, Nat.reduceAdd, Nat.reduceMul, Nat.reduceSub, Nat.reduceLeDiff, Nat.reduceEqDiff, ↓reduceIte, reduceCtorEq, Nat.reduceLT, Nat.reducePow, Nat.reduceDiv, Nat.reduceMod, Nat.reduceBEq, Int.reduceLT, Int.reduceLE, Int.reduceToNat, Int.reduceAdd, Int.reduceSub, Int.reduceNeg])
    | (with_reducible apply pg <;> (intro hc; (try simp only [hcb, Nat.reduceAdd, Nat.reduceMul, Nat.reduceSub, Nat.reduceLeDiff, Nat.reduceEqDiff, ↓reduceIte, reduceCtorEq, Nat.reduceLT, Nat.reducePow, Nat.reduceDiv, Nat.reduceMod, Nat.reduceBEq, Int.reduceLT, Int.reduceLE, Int.reduceToNat, Int.reduceAdd, Int.reduceSub, Int.reduceNeg, ne_eq, forall_const] at hc); first | (exfalso; omega) | exact absurd trivial hc | skip))
    | (with_reducible apply hnx; clear hnx nx)
    | (with_reducible refine And.intro (by omega) ?_)
    | (with_reducible refine And.intro ?_ ?_)
    | (clear hnx nx; with_reducible apply hnx; clear hnx nx)
    | (clear hnx nx; clear hnx nx; with_reducible apply hnx; clear hnx nx))
      all_goals first
        | exact absurd ‹r = []› hre
        | (exfalso
           omega)
        | skip
      have hdr := st3_drop (Q := qOf y) (n := y.length) hS
      have h1y := st3_one (S := stS u) (Q := qOf y) (n := y.length)
      have hel : elemsOf 1 (List.map pbyte (qOf y) ++ [pint .u64 y.length]) 64 = (qOf y).map pbyte := elemsOf_bytes hQ2 _
      have hss := st3_sets (S' := stS y) (Q := qOf y) (n := y.length) hS
      have hs8 : ((stS y).map pw).length = 8 := by rw [List.length_map, stS_len]
      refine pcall_lend N2 ⟨79, false, 0, st3 (stS u) (qOf y) y.length⟩ (by simp [look, hN1]) (R := fun res H => res = .agg ((comp (stS u) (qOf y)).map pw) ∧ H = []) ?_ ?_
      · simp only [List.map_cons, List.map_nil, frz1, ↓reduceIte, hl5, hdr, hel, Nat.one_mul, Nat.mul_one, Nat.reduceAdd, Nat.reduceLeDiff, Nat.zero_lt_one, and_self]
        exact hcm
      · rintro _ _ ⟨rfl, rfl⟩
        refine ⟨rfl, Flat_all (by
          intro c hc
          obtain ⟨w, _, rfl⟩ := List.mem_map.1 hc
          exact ⟨_, rfl⟩), ?_⟩
        rw [← hstep hf]
        refine Ev_in ?_
        repeat' (first
    | (with_reducible apply W_seq_k; intro nx hnx)
    | (with_reducible first | refine wr 119 ?_ | refine wd (id := 7) 119 2 (.op 0 true (.op 1 true (.op 2 true (.op 3 true (.op 4 false (.op 5 true (.op 6 false (.done)))))))) (by kernel_rfl) ?_)
    | ((with_reducible first | (apply WL_op; intro nx hnx) | refine Ev_out ?_ | refine wc ?_ | (apply popsD_op; intro nx hnx) | (refine popsD_alt ?_ ?_; intro nx hnx) | (refine pf hnm fun nm hnm => ?_; try simp only [fmb] at hnm) | (refine pm hnm fun nm hnm => ?_; try simp only [fmb] at hnm)); try (simp (maxSteps := 2000000) (disch := omega) only [ev, ↓evp, PV.cells, PV.one, PV.mem?, Value.cells, Nat.reduceAdd, Nat.reduceMul, Nat.reduceSub, Nat.reduceLeDiff, Nat.reduceEqDiff, ↓reduceIte, reduceCtorEq, Nat.reduceLT, Nat.reducePow, Nat.reduceDiv, Nat.reduceMod, Nat.reduceBEq, Int.reduceLT, Int.reduceLE, Int.reduceToNat, Int.reduceAdd, Int.reduceSub, Int.reduceNeg, hnm, Tryd.tf0, Tryd.tf1, Tryd.tf2, Tryd.tf3, Tryd.tf4, Tryd.tf5, Tryd.tf9, Tryd.tf27, Tryd.tf74, Tryd.tf75, Tryd.tf76, Tryd.tf77, Tryd.tf79, Tryd.call64, hN1, hN3, hl3, hl4, hl5, hss, hs8, all_one_pw]))
    | ((with_reducible first | apply W_block | apply W_scope | apply WL_nil | apply W_label | apply W_skip | apply W_exit | apply W_ret | apply popsD_done | exact popsD_stop) <;> try simp only [kks, Nat.reduceAdd, Nat.reduceMul, Nat.reduceSub, Nat.reduceLeDiff, Nat.reduceEqDiff, ↓reduceIte, reduceCtorEq, Nat.reduceLT, Nat.reducePow, Nat.reduceDiv, Nat.reduceMod, Nat.reduceBEq, Int.reduceLT, Int.reduceLE, Int.reduceToNat, Int.reduceAdd, Int.reduceSub, Int.reduceNeg])
    | (with_reducible apply pg <;> (intro hc; (try simp only [hcb, Nat.reduceAdd, Nat.reduceMul, Nat.reduceSub, Nat.reduceLeDiff, Nat.reduceEqDiff, ↓reduceIte, reduceCtorEq, Nat.reduceLT, Nat.reducePow, Nat.reduceDiv, Nat.reduceMod, Nat.reduceBEq, Int.reduceLT, Int.reduceLE, Int.reduceToNat, Int.reduceAdd, Int.reduceSub, Int.reduceNeg, ne_eq, forall_const] at hc); first | (exfalso; omega) | exact absurd trivial hc | skip))
    | (with_reducible apply hnx; clear hnx nx)
    | (with_reducible refine And.intro (by omega) ?_)
    | (with_reducible refine And.intro ?_ ?_)
    | (clear hnx nx; with_reducible apply hnx; clear hnx nx)
    | (clear hnx nx; clear hnx nx; with_reducible apply hnx; clear hnx nx))
        all_goals first
          | (exfalso
             omega)
          | (refine hlp _ (x.length - (j + k)) _ (by omega) ?_ ⟨j + k, by omega, rfl, rfl⟩
             rw [← htk, ← hxd]
             refine Wk_fr (by simp only [wkb, Nat.reduceAdd, Nat.reduceMul, Nat.reduceSub, Nat.reduceLeDiff, Nat.reduceEqDiff, ↓reduceIte, reduceCtorEq, Nat.reduceLT, Nat.reducePow, Nat.reduceDiv, Nat.reduceMod, Nat.reduceBEq, Int.reduceLT, Int.reduceLE, Int.reduceToNat, Int.reduceAdd, Int.reduceSub, Int.reduceNeg]) ?_
             exact Sub_refl hnd)
          | skip
    · repeat' (first
    | (with_reducible apply W_seq_k; intro nx hnx)
    | (with_reducible first | refine wr 119 ?_ | refine wd (id := 7) 119 2 (.op 0 true (.op 1 true (.op 2 true (.op 3 true (.op 4 false (.op 5 true (.op 6 false (.done)))))))) (by kernel_rfl) ?_)
    | ((with_reducible first | (apply WL_op; intro nx hnx) | refine Ev_out ?_ | refine wc ?_ | (apply popsD_op; intro nx hnx) | (refine popsD_alt ?_ ?_; intro nx hnx) | (refine pf hnm fun nm hnm => ?_; try simp only [fmb] at hnm) | (refine pm hnm fun nm hnm => ?_; try simp only [fmb] at hnm)); try (simp (maxSteps := 2000000) (disch := omega) only [ev, ↓evp, PV.cells, PV.one, PV.mem?, Value.cells, Nat.reduceAdd, Nat.reduceMul, Nat.reduceSub, Nat.reduceLeDiff, Nat.reduceEqDiff, ↓reduceIte, reduceCtorEq, Nat.reduceLT, Nat.reducePow, Nat.reduceDiv, Nat.reduceMod, Nat.reduceBEq, Int.reduceLT, Int.reduceLE, Int.reduceToNat, Int.reduceAdd, Int.reduceSub, Int.reduceNeg, hnm, Tryd.tf0, Tryd.tf1, Tryd.tf2, Tryd.tf3, Tryd.tf4, Tryd.tf5, Tryd.tf9, Tryd.tf27, Tryd.tf74, Tryd.tf75, Tryd.tf76, Tryd.tf77, Tryd.tf79, Tryd.call64, hN1, hN3, hl3, hg3, hl4, hg4, tm, ha64, hk, htr, hvb, hcp, hwk, hwn, hsn]))
    | ((with_reducible first | apply W_block | apply W_scope | apply WL_nil | apply W_label | apply W_skip | apply W_exit | apply W_ret | apply popsD_done | exact popsD_stop) <;> try simp only [kks, Nat.reduceAdd, Nat.reduceMul, Nat.reduceSub, Nat.reduceLeDiff, Nat.reduceEqDiff, ↓reduceIte, reduceCtorEq, Nat.reduceLT, Nat.reducePow, Nat.reduceDiv, Nat.reduceMod, Nat.reduceBEq, Int.reduceLT, Int.reduceLE, Int.reduceToNat, Int.reduceAdd, Int.reduceSub, Int.reduceNeg])
    | (with_reducible apply pg <;> (intro hc; (try simp only [hcb, Nat.reduceAdd, Nat.reduceMul, Nat.reduceSub, Nat.reduceLeDiff, Nat.reduceEqDiff, ↓reduceIte, reduceCtorEq, Nat.reduceLT, Nat.reducePow, Nat.reduceDiv, Nat.reduceMod, Nat.reduceBEq, Int.reduceLT, Int.reduceLE, Int.reduceToNat, Int.reduceAdd, Int.reduceSub, Int.reduceNeg, ne_eq, forall_const] at hc); first | (exfalso; omega) | exact absurd trivial hc | skip))
    | (with_reducible apply hnx; clear hnx nx)
    | (with_reducible refine And.intro (by omega) ?_)
    | (with_reducible refine And.intro ?_ ?_)
    | (clear hnx nx; with_reducible apply hnx; clear hnx nx)
    | (clear hnx nx; clear hnx nx; with_reducible apply hnx; clear hnx nx))
      all_goals first
        | exact absurd ‹r = []› hre
        | (exfalso
           omega)
        | skip
      refine hlp _ (x.length - (j + k)) _ (by omega) ?_ ⟨j + k, by omega, rfl, rfl⟩
      rw [← htk, hkeep hf, ← hxd]
      refine Wk_fr (by simp only [wkb, Nat.reduceAdd, Nat.reduceMul, Nat.reduceSub, Nat.reduceLeDiff, Nat.reduceEqDiff, ↓reduceIte, reduceCtorEq, Nat.reduceLT, Nat.reducePow, Nat.reduceDiv, Nat.reduceMod, Nat.reduceBEq, Int.reduceLT, Int.reduceLE, Int.reduceToNat, Int.reduceAdd, Int.reduceSub, Int.reduceNeg]) ?_
      exact Sub_refl hnd
end Go.PM

namespace Go.PM
open Go.Proofs
attribute [local irreducible] W PCalls pcall pcallI WL
theorem isByte_pb (l : List UInt8) : (l.map pbyte).all isByte = true := by
  rw [List.all_eq_true]
  intro p hp
  obtain ⟨b, _, rfl⟩ := List.mem_map.1 hp
  have := b.toNat_lt
  simp [isByte]
  omega
theorem unb_pb (l : List UInt8) : (l.map pbyte).map unb = l := bytes_unb l
theorem st3_get {S : List UInt32} {Q : List UInt8} {n : Nat} (hS : S.length = 8) (i : Nat) (h : i < 8) : (st3 S Q n)[i]? = some (pw (S.getD i 0)) := by
  have e : (List.take 8 (st3 S Q n))[i]? = some (pw (S.getD i 0)) := by
    rw [st3_state hS, List.getElem?_map, List.getElem?_eq_getElem (by omega), List.getD_eq_getElem?_getD, List.getElem?_eq_getElem (by omega)]
    rfl
  rwa [List.getElem?_take_of_lt h] at e
theorem st3_flat {S : List UInt32} {Q : List UInt8} {n : Nat} (m : Int) (cs : List PV) : ∀ u ∈ st3 S Q n, frz1 m cs u = u ∧ u.one = true := by
  intro u hu
  unfold st3 at hu
  rcases List.mem_append.1 hu with h | h
  · rcases List.mem_append.1 h with h | h
    · obtain ⟨x, _, rfl⟩ := List.mem_map.1 h
      exact ⟨rfl, rfl⟩
    · obtain ⟨x, _, rfl⟩ := List.mem_map.1 h
      exact ⟨rfl, rfl⟩
  · rw [List.mem_singleton.1 h]
    exact ⟨rfl, rfl⟩
theorem oC_flat {S : List UInt32} {i : Nat} (m : Int) (cs : List PV) : ∀ u ∈ oC S i, frz1 m cs u = u ∧ u.one = true := by
  intro u hu
  unfold oC tab at hu
  obtain ⟨x, _, rfl⟩ := List.mem_map.1 hu
  split <;> exact ⟨rfl, rfl⟩
theorem sha_blk (t : List UInt8) : sha t = outB (stS (t ++ padT t.length)) := by
  rw [sha, stS, List.length_append]
set_option maxRecDepth 100000 in
set_option maxHeartbeats 8000000 in
theorem ssum_c (G : Globs) (hG : G 0 = .iptr (KS.map pw) 0) (t : List UInt8) (hb : t.length ≤ 4294960000) : PCalls Tryd.prog G 37 [stP t] [] (fun res H => res = .agg ((sha t).map pbyte) ∧ H = []) := by
  have hz := zN_lt t.length
  have h128 : pint .u8 128 = pbyte 128 := rfl
  have h00 : pint .u8 0 = pbyte 0 := rfl
  have hS := stS_len t
  have hQ := qOf_len t
  have hl3 := st3_len (n := t.length) hS hQ
  have hg3 := st3_n (n := t.length) hS hQ
  have hone := st3_one (S := stS t) (Q := qOf t) (n := t.length)
  have hadd := add_c G hG t (padT t.length) (by rw [padT_len]; omega)
  have hsha := sha_blk t
  unfold stP at hadd ⊢
  rw [stC_st3 t] at hadd ⊢
  have hw1 : IntKind.u64.wrap (8 * (t.length : Int)) = ((8 * t.length : Nat) : Int) := by
    rw [show 8 * (t.length : Int) = ((8 * t.length : Nat) : Int) by omega]
    exact wrn64 _ (by omega)
  obtain ⟨m, hm⟩ : ∃ m, m = 8 * t.length := ⟨_, rfl⟩
  rw [← hm] at hw1
  obtain ⟨S, hSd⟩ : ∃ S, S = stS (t ++ padT t.length) := ⟨_, rfl⟩
  (refine PCalls_f Tryd.func37 rfl Tryd.ntmps37 Tryd.results37 (by simp) fun fin hfin => ?_; have hnm : True := trivial; simp only [ev, Nat.reduceAdd, Nat.reduceMul, Nat.reduceSub, Nat.reduceLeDiff, Nat.reduceEqDiff, ↓reduceIte, reduceCtorEq, Nat.reduceLT, Nat.reducePow, Nat.reduceDiv, Nat.reduceMod, Nat.reduceBEq, Int.reduceLT, Int.reduceLE, Int.reduceToNat, Int.reduceAdd, Int.reduceSub, Int.reduceNeg])
  repeat' (first
    | (with_reducible apply W_seq_k; intro nx hnx)
    | (with_reducible first | refine wr 1099520016639 ?_)
    | ((with_reducible first | (apply WL_op; intro nx hnx) | refine Ev_out ?_ | refine wc ?_ | (refine pf hnm fun nm hnm => ?_; try simp only [fmb] at hnm) | (refine pm hnm fun nm hnm => ?_; try simp only [fmb] at hnm)); try (simp (maxSteps := 2000000) (disch := omega) only [ev, ↓evp, PV.cells, PV.one, PV.mem?, Value.cells, Nat.reduceAdd, Nat.reduceMul, Nat.reduceSub, Nat.reduceLeDiff, Nat.reduceEqDiff, ↓reduceIte, reduceCtorEq, Nat.reduceLT, Nat.reducePow, Nat.reduceDiv, Nat.reduceMod, Nat.reduceBEq, Int.reduceLT, Int.reduceLE, Int.reduceToNat, Int.reduceAdd, Int.reduceSub, Int.reduceNeg, hnm, Tryd.tf0, Tryd.tf1, Tryd.tf2, Tryd.tf3, Tryd.tf4, Tryd.tf5, Tryd.tf9, Tryd.tf27, Tryd.tf74, Tryd.tf75, Tryd.tf77, Tryd.tf79, Tryd.tf82, Tryd.call36, hl3, hone, hg3, hw1]))
    | ((with_reducible first | apply W_block | apply W_scope | apply WL_nil | apply W_label | apply W_skip | apply W_exit | apply W_ret) <;> try simp only [kks, Nat.reduceAdd, Nat.reduceMul, Nat.reduceSub, Nat.reduceLeDiff, Nat.reduceEqDiff, ↓reduceIte, reduceCtorEq, Nat.reduceLT, Nat.reducePow, Nat.reduceDiv, Nat.reduceMod, Nat.reduceBEq, Int.reduceLT, Int.reduceLE, Int.reduceToNat, Int.reduceAdd, Int.reduceSub, Int.reduceNeg])
    | (with_reducible apply pg <;> (intro hc; (try simp only [hcb, Nat.reduceAdd, Nat.reduceMul, Nat.reduceSub, Nat.reduceLeDiff, Nat.reduceEqDiff, ↓reduceIte, reduceCtorEq, Nat.reduceLT, Nat.reducePow, Nat.reduceDiv, Nat.reduceMod, Nat.reduceBEq, Int.reduceLT, Int.reduceLE, Int.reduceToNat, Int.reduceAdd, Int.reduceSub, Int.reduceNeg, ne_eq, forall_const] at hc); first | (exfalso; omega) | exact absurd trivial hc | skip))
    | (with_reducible apply hnx; clear hnx nx)
    | (with_reducible refine And.intro (by omega) ?_)
    | (with_reducible refine And.intro ?_ ?_)
    | (clear hnx nx; with_reducible apply hnx; clear hnx nx)
    | (clear hnx nx; clear hnx nx; with_reducible apply hnx; clear hnx nx))
  rename_i N1 _ N2 _
  refine W_loop_k (fun k τ => ∃ (z : Nat) (N : Int) (o : List UInt8), z ≤ zN t.length ∧ k = zN t.length - z ∧ o = 128 :: List.replicate z 0 ∧ [N, N2, N1].Nodup ∧ τ = ⟨fr 58 [(1, .ptr N1 0), (2, .ptr N2 0), (3, pint .u64 m), (4, .row N 1 o.length)], [(N, ⟨5, true, 1, o.map pbyte⟩), (N2, ⟨82, false, 0, oC S 0⟩), (N1, ⟨79, false, 0, st3 (stS t) (qOf t) t.length⟩)]⟩) (zN t.length)
    ⟨fr 58 [(1, .ptr N1 0), (2, .ptr N2 0), (3, pint .u64 m), (4, .row nm 1 1)], [(nm, ⟨5, true, 1, [128].map pbyte⟩), (N2, ⟨82, false, 0, oC S 0⟩), (N1, ⟨79, false, 0, st3 (stS t) (qOf t) t.length⟩)]⟩ (by
    rw [oC_zero]
    refine Wk_fr (by simp only [wkb, Nat.reduceAdd, Nat.reduceMul, Nat.reduceSub, Nat.reduceLeDiff, Nat.reduceEqDiff, ↓reduceIte, reduceCtorEq, Nat.reduceLT, Nat.reducePow, Nat.reduceDiv, Nat.reduceMod, Nat.reduceBEq, Int.reduceLT, Int.reduceLE, Int.reduceToNat, Int.reduceAdd, Int.reduceSub, Int.reduceNeg]) ?_
    exact ⟨by simp, by simp [names, hnm]⟩) ⟨0, nm, [128], by omega, by omega, rfl, by simp [hnm], rfl⟩ ?_
  rintro k τ ⟨z, N, o, hzz, rfl, ho, hnd, rfl⟩ lp hlp
  clear hnm
  have hnd0 := hnd
  simp only [List.nodup_cons, List.mem_cons, List.not_mem_nil, or_false, not_or, List.nodup_nil, and_true, not_false_eq_true] at hnd
  have hnm : ((¬ N = N2 ∧ ¬ N2 = N) ∧ ¬ N = N1 ∧ ¬ N1 = N) ∧ ¬ N2 = N1 ∧ ¬ N1 = N2 := ⟨⟨⟨hnd.1.1, fun e => hnd.1.1 e.symm⟩, hnd.1.2, fun e => hnd.1.2 e.symm⟩, hnd.2, fun e => hnd.2 e.symm⟩
  have hol : o.length = 1 + z := by
    rw [ho]
    simp
    omega
  have htm : ((t.length : Int) + (o.length : Int)).tmod 64 = (((t.length + o.length) % 64 : Nat) : Int) := by rw [Int.tmod_eq_emod_of_nonneg (by omega)]; omega
  by_cases hst : (t.length + 1 + z) % 64 = 56
  · have hze := zN_stop _ _ hzz hst
    have hs2 : (t.length + o.length) % 64 = 56 := by rw [hol, ← Nat.add_assoc]; exact hst
    repeat' (first
    | (with_reducible apply W_seq_k; intro nx hnx)
    | (with_reducible first | refine wr 1099520016639 ?_)
    | ((with_reducible first | (apply WL_op; intro nx hnx) | refine Ev_out ?_ | refine wc ?_ | (refine pf hnm fun nm hnm => ?_; try simp only [fmb] at hnm) | (refine pm hnm fun nm hnm => ?_; try simp only [fmb] at hnm)); try (simp (maxSteps := 2000000) (disch := omega) only [ev, ↓evp, PV.cells, PV.one, PV.mem?, Value.cells, Nat.reduceAdd, Nat.reduceMul, Nat.reduceSub, Nat.reduceLeDiff, Nat.reduceEqDiff, ↓reduceIte, reduceCtorEq, Nat.reduceLT, Nat.reducePow, Nat.reduceDiv, Nat.reduceMod, Nat.reduceBEq, Int.reduceLT, Int.reduceLE, Int.reduceToNat, Int.reduceAdd, Int.reduceSub, Int.reduceNeg, hnm, Tryd.tf0, Tryd.tf1, Tryd.tf2, Tryd.tf3, Tryd.tf4, Tryd.tf5, Tryd.tf9, Tryd.tf27, Tryd.tf74, Tryd.tf75, Tryd.tf77, Tryd.tf79, Tryd.tf82, Tryd.call36, hl3, hg3, htm, hs2]))
    | ((with_reducible first | apply W_block | apply W_scope | apply WL_nil | apply W_label | apply W_skip | apply W_exit | apply W_ret) <;> try simp only [kks, Nat.reduceAdd, Nat.reduceMul, Nat.reduceSub, Nat.reduceLeDiff, Nat.reduceEqDiff, ↓reduceIte, reduceCtorEq, Nat.reduceLT, Nat.reducePow, Nat.reduceDiv, Nat.reduceMod, Nat.reduceBEq, Int.reduceLT, Int.reduceLE, Int.reduceToNat, Int.reduceAdd, Int.reduceSub, Int.reduceNeg])
    | (with_reducible apply pg <;> (intro hc; (try simp only [hcb, Nat.reduceAdd, Nat.reduceMul, Nat.reduceSub, Nat.reduceLeDiff, Nat.reduceEqDiff, ↓reduceIte, reduceCtorEq, Nat.reduceLT, Nat.reducePow, Nat.reduceDiv, Nat.reduceMod, Nat.reduceBEq, Int.reduceLT, Int.reduceLE, Int.reduceToNat, Int.reduceAdd, Int.reduceSub, Int.reduceNeg, ne_eq, forall_const] at hc); first | (exfalso; omega) | exact absurd trivial hc | skip))
    | (with_reducible apply hnx; clear hnx nx)
    | (with_reducible refine And.intro (by omega) ?_)
    | (with_reducible refine And.intro ?_ ?_)
    | (clear hnx nx; with_reducible apply hnx; clear hnx nx)
    | (clear hnx nx; clear hnx nx; with_reducible apply hnx; clear hnx nx))
    all_goals first
      | (exfalso
         omega)
      | skip
    refine W_loop_k (fun k τ => ∃ (i : Nat) (N : Int) (u : List UInt8), i ≤ 8 ∧ k = 8 - i ∧ u = o ++ (be8 m).take i ∧ [N, N2, N1].Nodup ∧ τ = ⟨fr 58 [(1, .ptr N1 0), (2, .ptr N2 0), (3, pint .u64 m), (4, .row N 1 u.length), (23, pint .i64 i)], [(N, ⟨5, true, 1, u.map pbyte⟩), (N2, ⟨82, false, 0, oC S 0⟩), (N1, ⟨79, false, 0, st3 (stS t) (qOf t) t.length⟩)]⟩) 8
      ⟨fr 58 [(1, .ptr N1 0), (2, .ptr N2 0), (3, pint .u64 m), (4, .row N 1 o.length), (23, pint .i64 (0 : Nat))], [(N, ⟨5, true, 1, o.map pbyte⟩), (N2, ⟨82, false, 0, oC S 0⟩), (N1, ⟨79, false, 0, st3 (stS t) (qOf t) t.length⟩)]⟩ (by
      refine Wk_fr (by simp only [wkb, Nat.reduceAdd, Nat.reduceMul, Nat.reduceSub, Nat.reduceLeDiff, Nat.reduceEqDiff, ↓reduceIte, reduceCtorEq, Nat.reduceLT, Nat.reducePow, Nat.reduceDiv, Nat.reduceMod, Nat.reduceBEq, Int.reduceLT, Int.reduceLE, Int.reduceToNat, Int.reduceAdd, Int.reduceSub, Int.reduceNeg]) ?_
      exact Sub_refl hnd0) ⟨0, N, o, by omega, by omega, by simp, hnd0, rfl⟩ ?_
    clear hnm hnd hnd0 htm hs2 hlp lp
    rintro k τ ⟨i, N, u, hi, rfl, hu, hnd, rfl⟩ lp2 hlp2
    have hnd0 := hnd
    simp only [List.nodup_cons, List.mem_cons, List.not_mem_nil, or_false, not_or, List.nodup_nil, and_true, not_false_eq_true] at hnd
    have hnm : ((¬ N = N2 ∧ ¬ N2 = N) ∧ ¬ N = N1 ∧ ¬ N1 = N) ∧ ¬ N2 = N1 ∧ ¬ N1 = N2 := ⟨⟨⟨hnd.1.1, fun e => hnd.1.1 e.symm⟩, hnd.1.2, fun e => hnd.1.2 e.symm⟩, hnd.2, fun e => hnd.2 e.symm⟩
    have hul : u.length = 1 + z + i := by
      rw [hu]
      simp [be8_len, hol]
      omega
    by_cases hi8 : i < 8
    · have hsh := shr8 m (56 - 8 * (i : Int)) (7 - i) (by omega) (by omega)
      have hby := byte_mod (m / 256 ^ (7 - i))
      have htk := be8_take m i hi8
      repeat' (first
    | (with_reducible apply W_seq_k; intro nx hnx)
    | (with_reducible first | refine wr 1099520016639 ?_)
    | ((with_reducible first | (apply WL_op; intro nx hnx) | refine Ev_out ?_ | refine wc ?_ | (refine pf hnm fun nm hnm => ?_; try simp only [fmb] at hnm) | (refine pm hnm fun nm hnm => ?_; try simp only [fmb] at hnm)); try (simp (maxSteps := 2000000) (disch := omega) only [ev, ↓evp, PV.cells, PV.one, PV.mem?, Value.cells, Nat.reduceAdd, Nat.reduceMul, Nat.reduceSub, Nat.reduceLeDiff, Nat.reduceEqDiff, ↓reduceIte, reduceCtorEq, Nat.reduceLT, Nat.reducePow, Nat.reduceDiv, Nat.reduceMod, Nat.reduceBEq, Int.reduceLT, Int.reduceLE, Int.reduceToNat, Int.reduceAdd, Int.reduceSub, Int.reduceNeg, hnm, Tryd.tf0, Tryd.tf1, Tryd.tf2, Tryd.tf3, Tryd.tf4, Tryd.tf5, Tryd.tf9, Tryd.tf27, Tryd.tf74, Tryd.tf75, Tryd.tf77, Tryd.tf79, Tryd.tf82, Tryd.call36, hsh, hby]))
    | ((with_reducible first | apply W_block | apply W_scope | apply WL_nil | apply W_label | apply W_skip | apply W_exit | apply W_ret) <;> try simp only [kks, Nat.reduceAdd, Nat.reduceMul, Nat.reduceSub, Nat.reduceLeDiff, Nat.reduceEqDiff, ↓reduceIte, reduceCtorEq, Nat.reduceLT, Nat.reducePow, Nat.reduceDiv, Nat.reduceMod, Nat.reduceBEq, Int.reduceLT, Int.reduceLE, Int.reduceToNat, Int.reduceAdd, Int.reduceSub, Int.reduceNeg])
    | (with_reducible apply pg <;> (intro hc; (try simp only [hcb, Nat.reduceAdd, Nat.reduceMul, Nat.reduceSub, Nat.reduceLeDiff, Nat.reduceEqDiff, ↓reduceIte, reduceCtorEq, Nat.reduceLT, Nat.reducePow, Nat.reduceDiv, Nat.reduceMod, Nat.reduceBEq, Int.reduceLT, Int.reduceLE, Int.reduceToNat, Int.reduceAdd, Int.reduceSub, Int.reduceNeg, ne_eq, forall_const] at hc); first | (exfalso; omega) | exact absurd trivial hc | skip))
    | (with_reducible apply hnx; clear hnx nx)
    | (with_reducible refine And.intro (by omega) ?_)
    | (with_reducible refine And.intro ?_ ?_)
    | (clear hnx nx; with_reducible apply hnx; clear hnx nx)
    | (clear hnx nx; clear hnx nx; with_reducible apply hnx; clear hnx nx))
      all_goals first
        | (exfalso
           omega)
        | (refine hlp2 _ (8 - (i + 1)) _ (by omega) ?_ ⟨i + 1, nm, u ++ [UInt8.ofNat (m / 256 ^ (7 - i) % 256)], by omega, rfl, by rw [hu, htk, List.append_assoc], by simp [hnm], rfl⟩
           rw [List.length_append, List.map_append]
           refine Wk_fr (by simp only [wkb, Nat.reduceAdd, Nat.reduceMul, Nat.reduceSub, Nat.reduceLeDiff, Nat.reduceEqDiff, ↓reduceIte, reduceCtorEq, Nat.reduceLT, Nat.reducePow, Nat.reduceDiv, Nat.reduceMod, Nat.reduceBEq, Int.reduceLT, Int.reduceLE, Int.reduceToNat, Int.reduceAdd, Int.reduceSub, Int.reduceNeg, List.length_cons, List.length_nil, Nat.zero_add]) ?_
           exact ⟨by simp, by simp [names, hnm]⟩)
    · have hi9 : i = 8 := by omega
      subst hi9
      have hfu : u = padT t.length := by
        rw [hu, ho, hze, List.take_of_length_le (by rw [be8_len]; omega), padT, hm]
        rfl
      have hb1 := isByte_pb u
      have hb2 := unb_pb u
      have htu : List.take u.length (u.map pbyte) = u.map pbyte := List.take_of_length_le (by simp)
      have h1t := st3_one (S := stS t) (Q := qOf t) (n := t.length)
      have ht73 : List.take 73 (st3 (stS t) (qOf t) t.length) = st3 (stS t) (qOf t) t.length := List.take_of_length_le (by omega)
      have hd73 : List.drop 73 (st3 (stS t) (qOf t) t.length) = [] := List.drop_of_length_le (by omega)
      rw [← hfu, stC_st3] at hadd
      rw [← hfu] at hSd
      obtain ⟨y, hy⟩ : ∃ y, y = t ++ u := ⟨_, rfl⟩
      rw [← hy] at hadd hSd
      have hSy := stS_len y
      have hQy := qOf_len y
      have hl4 := st3_len (n := y.length) hSy hQy
      have h1y := st3_one (S := stS y) (Q := qOf y) (n := y.length)
      have hy73 : List.take 73 (st3 (stS y) (qOf y) y.length) = st3 (stS y) (qOf y) y.length := List.take_of_length_le (by omega)
      refine W_x (τ := ⟨fr 58 [(4, .list 1 (u.map pbyte)), (1, .ptr N1 0), (2, .ptr N2 0), (3, pint .u64 m), (23, pint .i64 (8 : Nat))], [(N2, ⟨82, false, 0, oC S 0⟩), (N1, ⟨79, false, 0, st3 (stS t) (qOf t) t.length⟩)]⟩) (Wx.trans (Wx.of_wk (τ := ⟨fr 58 [(4, .row N 1 u.length), (1, .ptr N1 0), (2, .ptr N2 0), (3, pint .u64 m), (23, pint .i64 (8 : Nat))], [(N, ⟨5, true, 1, u.map pbyte⟩), (N2, ⟨82, false, 0, oC S 0⟩), (N1, ⟨79, false, 0, st3 (stS t) (qOf t) t.length⟩)]⟩) (by
        refine Wk_fr (by simp only [wkb, Nat.reduceAdd, Nat.reduceMul, Nat.reduceSub, Nat.reduceLeDiff, Nat.reduceEqDiff, ↓reduceIte, reduceCtorEq, Nat.reduceLT, Nat.reducePow, Nat.reduceDiv, Nat.reduceMod, Nat.reduceBEq, Int.reduceLT, Int.reduceLE, Int.reduceToNat, Int.reduceAdd, Int.reduceSub, Int.reduceNeg]) ?_
        exact Sub_refl hnd0)) (by
        have hw := Wx_bornH (G := G) (I := []) (N := 58) (d := 4) (L := [(1, .ptr N1 0), (2, .ptr N2 0), (3, pint .u64 m), (23, pint .i64 (8 : Nat))]) (n := N) (e := 5) (es := 1) (len := u.length) (cells := u.map pbyte) (H := [(N2, ⟨82, false, 0, oC S 0⟩), (N1, ⟨79, false, 0, st3 (stS t) (qOf t) t.length⟩)]) (by simp) (by simp) (by simp [frz, frz1, hnm]) (by
          simp only [List.forall_mem_cons, List.not_mem_nil, false_implies, implies_true, and_true]
          exact ⟨⟨by simp [hnm], oC_flat N _⟩, by simp [hnm], st3_flat N _⟩)
        rwa [elemsOf_one (by simp), htu] at hw)) ?_
      repeat' (first
    | (with_reducible apply W_seq_k; intro nx hnx)
    | (with_reducible first | refine wr 1099520016639 ?_)
    | ((with_reducible first | (apply WL_op; intro nx hnx) | refine Ev_out ?_ | refine wc ?_ | (refine pf hnm fun nm hnm => ?_; try simp only [fmb] at hnm) | (refine pm hnm fun nm hnm => ?_; try simp only [fmb] at hnm)); try (simp (maxSteps := 2000000) (disch := omega) only [ev, ↓evp, PV.cells, PV.one, PV.mem?, Value.cells, Nat.reduceAdd, Nat.reduceMul, Nat.reduceSub, Nat.reduceLeDiff, Nat.reduceEqDiff, ↓reduceIte, reduceCtorEq, Nat.reduceLT, Nat.reducePow, Nat.reduceDiv, Nat.reduceMod, Nat.reduceBEq, Int.reduceLT, Int.reduceLE, Int.reduceToNat, Int.reduceAdd, Int.reduceSub, Int.reduceNeg, hnm, Tryd.tf0, Tryd.tf1, Tryd.tf2, Tryd.tf3, Tryd.tf4, Tryd.tf5, Tryd.tf9, Tryd.tf27, Tryd.tf74, Tryd.tf75, Tryd.tf77, Tryd.tf79, Tryd.tf82, Tryd.call36, hl3, hb1, hb2, htu, h1t, ht73, hd73, hl4, h1y, hy73]))
    | ((with_reducible first | apply W_block | apply W_scope | apply WL_nil | apply W_label | apply W_skip | apply W_exit | apply W_ret) <;> try simp only [kks, Nat.reduceAdd, Nat.reduceMul, Nat.reduceSub, Nat.reduceLeDiff, Nat.reduceEqDiff, ↓reduceIte, reduceCtorEq, Nat.reduceLT, Nat.reducePow, Nat.reduceDiv, Nat.reduceMod, Nat.reduceBEq, Int.reduceLT, Int.reduceLE, Int.reduceToNat, Int.reduceAdd, Int.reduceSub, Int.reduceNeg])
    | (with_reducible apply pg <;> (intro hc; (try simp only [hcb, Nat.reduceAdd, Nat.reduceMul, Nat.reduceSub, Nat.reduceLeDiff, Nat.reduceEqDiff, ↓reduceIte, reduceCtorEq, Nat.reduceLT, Nat.reducePow, Nat.reduceDiv, Nat.reduceMod, Nat.reduceBEq, Int.reduceLT, Int.reduceLE, Int.reduceToNat, Int.reduceAdd, Int.reduceSub, Int.reduceNeg, ne_eq, forall_const] at hc); first | (exfalso; omega) | exact absurd trivial hc | skip))
    | (with_reducible apply hnx; clear hnx nx)
    | (with_reducible refine And.intro (by omega) ?_)
    | (with_reducible refine And.intro ?_ ?_)
    | (with_reducible refine pe (hadd) ?_)
    | (clear hnx nx; with_reducible apply hnx; clear hnx nx)
    | (clear hnx nx; clear hnx nx; with_reducible apply hnx; clear hnx nx))
      all_goals first
        | exact rfl
        | (exfalso
           omega)
        | skip
      have hsy : sha t = outB (stS y) := by rw [hy, hfu]; exact hsha
      rw [← hSd] at *
      clear hnd hnd0 lp2 hlp2
      have hnd : [nm, N2, N1].Nodup := by simp [hnm]
      refine W_loop_k (fun z τ => ∃ j : Nat, j ≤ 32 ∧ z = 32 - j ∧ τ = ⟨fr 58 [(40, pint .i64 j), (6, .ptr nm 0), (2, .ptr N2 0), (1, .ptr N1 0)], [(nm, ⟨82, false, 0, oC S j⟩), (N2, ⟨82, false, 0, oC S 0⟩), (N1, ⟨79, false, 0, st3 S (qOf y) y.length⟩)]⟩) 32
        ⟨fr 58 [(40, pint .i64 (0 : Nat)), (6, .ptr nm 0), (2, .ptr N2 0), (1, .ptr N1 0)], [(nm, ⟨82, false, 0, oC S 0⟩), (N2, ⟨82, false, 0, oC S 0⟩), (N1, ⟨79, false, 0, st3 S (qOf y) y.length⟩)]⟩ (by
        rw [oC_zero]
        refine Wk_fr (by simp only [wkb, Nat.reduceAdd, Nat.reduceMul, Nat.reduceSub, Nat.reduceLeDiff, Nat.reduceEqDiff, ↓reduceIte, reduceCtorEq, Nat.reduceLT, Nat.reducePow, Nat.reduceDiv, Nat.reduceMod, Nat.reduceBEq, Int.reduceLT, Int.reduceLE, Int.reduceToNat, Int.reduceAdd, Int.reduceSub, Int.reduceNeg]) ?_
        exact Sub_refl hnd) ⟨0, by omega, by omega, rfl⟩ ?_
      rintro z τ ⟨j, hj, rfl, rfl⟩ lp hlp
      have hcl := oC_len S j
      have hcl0 := oC_len S 0
      by_cases hj2 : j < 32
      · have td : (j : Int).tdiv 4 = ((j / 4 : Nat) : Int) := by rw [Int.tdiv_eq_ediv_of_nonneg (by omega)]; omega
        have tm : (j : Int).tmod 4 = ((j % 4 : Nat) : Int) := by rw [Int.tmod_eq_emod_of_nonneg (by omega)]; omega
        have hg := st3_get (Q := qOf y) (n := y.length) hSy (j / 4) (by omega)
        obtain ⟨x, hx⟩ : ∃ x, x = S.getD (j / 4) 0 := ⟨_, rfl⟩
        rw [← hx] at hg
        have hsh := shr4 x.toNat (24 - 8 * ((j % 4 : Nat) : Int)) (3 - j % 4) (by omega) (by omega)
        have hby := byte_mod (x.toNat / 256 ^ (3 - j % 4))
        have hob : UInt8.ofNat (x.toNat / 256 ^ (3 - j % 4) % 256) = oB S j := by rw [oB, ← hx]
        rw [hob] at hby
        have hset := oC_set S j hj2
        repeat' (first
    | (with_reducible apply W_seq_k; intro nx hnx)
    | (with_reducible first | refine wr 1099520016639 ?_)
    | ((with_reducible first | (apply WL_op; intro nx hnx) | refine Ev_out ?_ | refine wc ?_ | (refine pf hnm fun nm hnm => ?_; try simp only [fmb] at hnm) | (refine pm hnm fun nm hnm => ?_; try simp only [fmb] at hnm)); try (simp (maxSteps := 2000000) (disch := omega) only [ev, ↓evp, PV.cells, PV.one, PV.mem?, Value.cells, Nat.reduceAdd, Nat.reduceMul, Nat.reduceSub, Nat.reduceLeDiff, Nat.reduceEqDiff, ↓reduceIte, reduceCtorEq, Nat.reduceLT, Nat.reducePow, Nat.reduceDiv, Nat.reduceMod, Nat.reduceBEq, Int.reduceLT, Int.reduceLE, Int.reduceToNat, Int.reduceAdd, Int.reduceSub, Int.reduceNeg, hnm, Tryd.tf0, Tryd.tf1, Tryd.tf2, Tryd.tf3, Tryd.tf4, Tryd.tf5, Tryd.tf9, Tryd.tf27, Tryd.tf74, Tryd.tf75, Tryd.tf77, Tryd.tf79, Tryd.tf82, Tryd.call36, td, tm, hcl, hcl0, hg, hsh, hby, hset]))
    | ((with_reducible first | apply W_block | apply W_scope | apply WL_nil | apply W_label | apply W_skip | apply W_exit | apply W_ret) <;> try simp only [kks, Nat.reduceAdd, Nat.reduceMul, Nat.reduceSub, Nat.reduceLeDiff, Nat.reduceEqDiff, ↓reduceIte, reduceCtorEq, Nat.reduceLT, Nat.reducePow, Nat.reduceDiv, Nat.reduceMod, Nat.reduceBEq, Int.reduceLT, Int.reduceLE, Int.reduceToNat, Int.reduceAdd, Int.reduceSub, Int.reduceNeg])
    | (with_reducible apply pg <;> (intro hc; (try simp only [hcb, Nat.reduceAdd, Nat.reduceMul, Nat.reduceSub, Nat.reduceLeDiff, Nat.reduceEqDiff, ↓reduceIte, reduceCtorEq, Nat.reduceLT, Nat.reducePow, Nat.reduceDiv, Nat.reduceMod, Nat.reduceBEq, Int.reduceLT, Int.reduceLE, Int.reduceToNat, Int.reduceAdd, Int.reduceSub, Int.reduceNeg, ne_eq, forall_const] at hc); first | (exfalso; omega) | exact absurd trivial hc | skip))
    | (with_reducible apply hnx; clear hnx nx)
    | (with_reducible refine And.intro (by omega) ?_)
    | (with_reducible refine And.intro ?_ ?_)
    | (clear hnx nx; with_reducible apply hnx; clear hnx nx)
    | (clear hnx nx; clear hnx nx; with_reducible apply hnx; clear hnx nx))
        all_goals first
          | (exfalso
             omega)
          | (refine hlp _ (32 - (j + 1)) _ (by omega) ?_ ⟨j + 1, by omega, rfl, rfl⟩
             refine Wk_fr (by simp only [wkb, Nat.reduceAdd, Nat.reduceMul, Nat.reduceSub, Nat.reduceLeDiff, Nat.reduceEqDiff, ↓reduceIte, reduceCtorEq, Nat.reduceLT, Nat.reducePow, Nat.reduceDiv, Nat.reduceMod, Nat.reduceBEq, Int.reduceLT, Int.reduceLE, Int.reduceToNat, Int.reduceAdd, Int.reduceSub, Int.reduceNeg]) ?_
             exact Sub_refl hnd)
      · have hje : j = 32 := by omega
        subst hje
        have hcf := oC_full S
        have hone := all_one_byte (outB S)
        have hol := outB_len S
        have htk : List.take 32 ((outB S).map pbyte) = (outB S).map pbyte := List.take_of_length_le (by simp [hol])
        have hdr : List.drop 32 (oC S 0) = [] := List.drop_of_length_le (by omega)
        rw [hcf]
        repeat' (first
    | (with_reducible apply W_seq_k; intro nx hnx)
    | (with_reducible first | refine wr 1099520016639 ?_)
    | ((with_reducible first | (apply WL_op; intro nx hnx) | refine Ev_out ?_ | refine wc ?_ | (refine pf hnm fun nm hnm => ?_; try simp only [fmb] at hnm) | (refine pm hnm fun nm hnm => ?_; try simp only [fmb] at hnm)); try (simp (maxSteps := 2000000) (disch := omega) only [ev, ↓evp, PV.cells, PV.one, PV.mem?, Value.cells, Nat.reduceAdd, Nat.reduceMul, Nat.reduceSub, Nat.reduceLeDiff, Nat.reduceEqDiff, ↓reduceIte, reduceCtorEq, Nat.reduceLT, Nat.reducePow, Nat.reduceDiv, Nat.reduceMod, Nat.reduceBEq, Int.reduceLT, Int.reduceLE, Int.reduceToNat, Int.reduceAdd, Int.reduceSub, Int.reduceNeg, hnm, Tryd.tf0, Tryd.tf1, Tryd.tf2, Tryd.tf3, Tryd.tf4, Tryd.tf5, Tryd.tf9, Tryd.tf27, Tryd.tf74, Tryd.tf75, Tryd.tf77, Tryd.tf79, Tryd.tf82, Tryd.call36, hol, htk, hone, hcl0, hdr, Nat.min_self]))
    | ((with_reducible first | apply W_block | apply W_scope | apply WL_nil | apply W_label | apply W_skip | apply W_exit | apply W_ret) <;> try simp only [kks, Nat.reduceAdd, Nat.reduceMul, Nat.reduceSub, Nat.reduceLeDiff, Nat.reduceEqDiff, ↓reduceIte, reduceCtorEq, Nat.reduceLT, Nat.reducePow, Nat.reduceDiv, Nat.reduceMod, Nat.reduceBEq, Int.reduceLT, Int.reduceLE, Int.reduceToNat, Int.reduceAdd, Int.reduceSub, Int.reduceNeg])
    | (with_reducible apply pg <;> (intro hc; (try simp only [hcb, Nat.reduceAdd, Nat.reduceMul, Nat.reduceSub, Nat.reduceLeDiff, Nat.reduceEqDiff, ↓reduceIte, reduceCtorEq, Nat.reduceLT, Nat.reducePow, Nat.reduceDiv, Nat.reduceMod, Nat.reduceBEq, Int.reduceLT, Int.reduceLE, Int.reduceToNat, Int.reduceAdd, Int.reduceSub, Int.reduceNeg, ne_eq, forall_const] at hc); first | (exfalso; omega) | exact absurd trivial hc | skip))
    | (with_reducible apply hnx; clear hnx nx)
    | (with_reducible refine And.intro (by omega) ?_)
    | (with_reducible refine And.intro ?_ ?_)
    | (clear hnx nx; with_reducible apply hnx; clear hnx nx)
    | (clear hnx nx; clear hnx nx; with_reducible apply hnx; clear hnx nx))
        all_goals first
          | (exfalso
             omega)
          | skip
        refine hfin _ _ (Fin_cell (res := .agg ((outB S).map pbyte)) Tryd.tf82 (n := N2) (off := 0) (o := ⟨82, false, 0, (outB S).map pbyte⟩) (by simp only [fr_getD_cons, Nat.reduceEqDiff, Nat.reduceLT, ↓reduceIte]) (by simp [look, hnm]) ?_ (Sub_nil _) ⟨by rw [hsy], rfl⟩)
        simp [pload, hol, htk, hone]
  · have hz1 : z < zN t.length := by
      rcases Nat.lt_or_ge z (zN t.length) with h | h
      · exact h
      · exact absurd (by rw [Nat.le_antisymm hzz h]; exact zN_go _) hst
    have hoz : o ++ [0] = 128 :: List.replicate (z + 1) 0 := by
      rw [ho, List.replicate_succ']
      rfl
    have hsz : (t.length + o.length) % 64 ≠ 56 := by rw [hol, ← Nat.add_assoc]; exact hst
    repeat' (first
    | (with_reducible apply W_seq_k; intro nx hnx)
    | (with_reducible first | refine wr 1099520016639 ?_)
    | ((with_reducible first | (apply WL_op; intro nx hnx) | refine Ev_out ?_ | refine wc ?_ | (refine pf hnm fun nm hnm => ?_; try simp only [fmb] at hnm) | (refine pm hnm fun nm hnm => ?_; try simp only [fmb] at hnm)); try (simp (maxSteps := 2000000) (disch := omega) only [ev, ↓evp, PV.cells, PV.one, PV.mem?, Value.cells, Nat.reduceAdd, Nat.reduceMul, Nat.reduceSub, Nat.reduceLeDiff, Nat.reduceEqDiff, ↓reduceIte, reduceCtorEq, Nat.reduceLT, Nat.reducePow, Nat.reduceDiv, Nat.reduceMod, Nat.reduceBEq, Int.reduceLT, Int.reduceLE, Int.reduceToNat, Int.reduceAdd, Int.reduceSub, Int.reduceNeg, hnm, Tryd.tf0, Tryd.tf1, Tryd.tf2, Tryd.tf3, Tryd.tf4, Tryd.tf5, Tryd.tf9, Tryd.tf27, Tryd.tf74, Tryd.tf75, Tryd.tf77, Tryd.tf79, Tryd.tf82, Tryd.call36, hl3, hg3, htm]))
    | ((with_reducible first | apply W_block | apply W_scope | apply WL_nil | apply W_label | apply W_skip | apply W_exit | apply W_ret) <;> try simp only [kks, Nat.reduceAdd, Nat.reduceMul, Nat.reduceSub, Nat.reduceLeDiff, Nat.reduceEqDiff, ↓reduceIte, reduceCtorEq, Nat.reduceLT, Nat.reducePow, Nat.reduceDiv, Nat.reduceMod, Nat.reduceBEq, Int.reduceLT, Int.reduceLE, Int.reduceToNat, Int.reduceAdd, Int.reduceSub, Int.reduceNeg])
    | (with_reducible apply pg <;> (intro hc; (try simp only [hcb, Nat.reduceAdd, Nat.reduceMul, Nat.reduceSub, Nat.reduceLeDiff, Nat.reduceEqDiff, ↓reduceIte, reduceCtorEq, Nat.reduceLT, Nat.reducePow, Nat.reduceDiv, Nat.reduceMod, Nat.reduceBEq, Int.reduceLT, Int.reduceLE, Int.reduceToNat, Int.reduceAdd, Int.reduceSub, Int.reduceNeg, ne_eq, forall_const] at hc); first | (exfalso; omega) | exact absurd trivial hc | skip))
    | (with_reducible apply hnx; clear hnx nx)
    | (with_reducible refine And.intro (by omega) ?_)
    | (with_reducible refine And.intro ?_ ?_)
    | (clear hnx nx; with_reducible apply hnx; clear hnx nx)
    | (clear hnx nx; clear hnx nx; with_reducible apply hnx; clear hnx nx))
    all_goals first
      | (exfalso
         omega)
      | (refine hlp _ (zN t.length - (z + 1)) _ (by omega) ?_ ⟨z + 1, nm, o ++ [0], by omega, rfl, hoz, by simp [hnm], rfl⟩
         rw [List.length_append, List.map_append]
         refine Wk_fr (by simp only [wkb, Nat.reduceAdd, Nat.reduceMul, Nat.reduceSub, Nat.reduceLeDiff, Nat.reduceEqDiff, ↓reduceIte, reduceCtorEq, Nat.reduceLT, Nat.reducePow, Nat.reduceDiv, Nat.reduceMod, Nat.reduceBEq, Int.reduceLT, Int.reduceLE, Int.reduceToNat, Int.reduceAdd, Int.reduceSub, Int.reduceNeg, List.length_cons, List.length_nil, Nat.zero_add]) ?_
         exact ⟨by simp, by simp [names, hnm]⟩)
set_option maxRecDepth 100000 in
set_option maxHeartbeats 8000000 in
theorem hsum_c (G : Globs) (hG : G 0 = .iptr (KS.map pw) 0) (b : List UInt8) (hb : b.length ≤ 4294960000) : PCalls Tryd.prog G 83 [.list 1 (b.map pbyte)] [] (fun res H => res = .agg ((sha b).map pbyte) ∧ H = []) := by
  have hadd := add_c G hG [] b (by simp only [List.length_nil]; omega)
  rw [List.nil_append] at hadd
  have hb1 := isByte_pb b
  have hb2 := unb_pb b
  have hone := all_one_byte (sha b)
  have hol := sha_len b
  have htk : List.take 32 ((sha b).map pbyte) = (sha b).map pbyte := List.take_of_length_le (by simp [hol])
  (refine PCalls_f Tryd.func83 rfl Tryd.ntmps83 Tryd.results83 (by simp) fun fin hfin => ?_; have hnm : True := trivial; simp only [ev, Nat.reduceAdd, Nat.reduceMul, Nat.reduceSub, Nat.reduceLeDiff, Nat.reduceEqDiff, ↓reduceIte, reduceCtorEq, Nat.reduceLT, Nat.reducePow, Nat.reduceDiv, Nat.reduceMod, Nat.reduceBEq, Int.reduceLT, Int.reduceLE, Int.reduceToNat, Int.reduceAdd, Int.reduceSub, Int.reduceNeg])
  repeat' (first
    | (with_reducible apply W_seq_k; intro nx hnx)
    | (with_reducible first | refine wr 5 ?_ | refine wd (id := 1) 5 2 (.op 1 true (.op 2 true (.op 0 true (.op 3 false (.op 4 false (.op 5 false (.done))))))) (by kernel_rfl) ?_)
    | ((with_reducible first | (apply WL_op; intro nx hnx) | refine Ev_out ?_ | refine wc ?_ | (apply popsD_op; intro nx hnx) | (refine popsD_alt ?_ ?_; intro nx hnx) | (refine pf hnm fun nm hnm => ?_; try simp only [fmb] at hnm) | (refine pm hnm fun nm hnm => ?_; try simp only [fmb] at hnm)); try (simp (maxSteps := 2000000) (disch := omega) only [ev, ↓evp, PV.cells, PV.one, PV.mem?, Value.cells, Nat.reduceAdd, Nat.reduceMul, Nat.reduceSub, Nat.reduceLeDiff, Nat.reduceEqDiff, ↓reduceIte, reduceCtorEq, Nat.reduceLT, Nat.reducePow, Nat.reduceDiv, Nat.reduceMod, Nat.reduceBEq, Int.reduceLT, Int.reduceLE, Int.reduceToNat, Int.reduceAdd, Int.reduceSub, Int.reduceNeg, hnm, Tryd.tf0, Tryd.tf5, Tryd.tf9, Tryd.tf27, Tryd.tf79, Tryd.tf82, Tryd.call35, Tryd.call36, Tryd.call37, hb1, hb2, hone, hol, htk]))
    | ((with_reducible first | apply W_block | apply W_scope | apply WL_nil | apply W_label | apply W_skip | apply W_exit | apply W_ret | apply popsD_done | exact popsD_stop) <;> try simp only [kks, Nat.reduceAdd, Nat.reduceMul, Nat.reduceSub, Nat.reduceLeDiff, Nat.reduceEqDiff, ↓reduceIte, reduceCtorEq, Nat.reduceLT, Nat.reducePow, Nat.reduceDiv, Nat.reduceMod, Nat.reduceBEq, Int.reduceLT, Int.reduceLE, Int.reduceToNat, Int.reduceAdd, Int.reduceSub, Int.reduceNeg])
    | (with_reducible apply hnx; clear hnx nx)
    | (with_reducible refine And.intro (by omega) ?_)
    | (with_reducible refine And.intro ?_ ?_)
    | (with_reducible refine pe (begin_c G) ?_)
    | (with_reducible refine pe (hadd) ?_)
    | (with_reducible refine pe (ssum_c G hG b hb) ?_)
    | (clear hnx nx; with_reducible apply hnx; clear hnx nx)
    | (clear hnx nx; clear hnx nx; with_reducible apply hnx; clear hnx nx))
  all_goals first
    | exact rfl
    | (refine hfin _ _ (Fin_cell (res := .agg ((sha b).map pbyte)) Tryd.tf82 (n := nm) (off := 0) (o := ⟨82, false, 0, (sha b).map pbyte⟩) (by simp only [fr_getD_cons, Nat.reduceEqDiff, Nat.reduceLT, ↓reduceIte]) (by simp [look, hnm]) ?_ (Sub_nil _) ⟨rfl, rfl⟩)
       simp [pload, hol, htk, hone])
end Go.PM

namespace Go.PM
open Go.Proofs
attribute [local irreducible] W PCalls pcall pcallI WL
end Go.PM

namespace Go.PM
open Go.Proofs
attribute [local irreducible] W PCalls pcall pcallI WL
def k64 (key : List UInt8) : List UInt8 := if 64 < key.length then sha key else key
def zpad (k : List UInt8) : List UInt8 := k ++ List.replicate (64 - k.length) 0
def macP (k : List UInt8) (w : UInt8) : List UInt8 := (zpad k).map (· ^^^ w)
def mac (key text : List UInt8) : List UInt8 := sha (macP (k64 key) 92 ++ sha (macP (k64 key) 54 ++ text))
theorem k64_len (key : List UInt8) : (k64 key).length ≤ 64 := by
  unfold k64
  split
  · rw [sha_len]
    omega
  · omega
theorem zpad_len (k : List UInt8) (h : k.length ≤ 64) : (zpad k).length = 64 := by
  rw [zpad, List.length_append, List.length_replicate]
  omega
theorem macP_len (k : List UInt8) (w : UInt8) (h : k.length ≤ 64) : (macP k w).length = 64 := by rw [macP, List.length_map, zpad_len k h]
theorem b_xor (x y : UInt8) : bits .xor .u8 (x.toNat : Int) (y.toNat : Int) = ((x ^^^ y).toNat : Int) := by
  have e : ∀ z : UInt8, BitVec.ofInt 8 (z.toNat : Int) = z.toBitVec := fun z => by
    rw [BitVec.ofInt_natCast]
    apply BitVec.eq_of_toNat_eq
    have := z.toNat_lt
    simp
  have h : bits .xor .u8 (x.toNat : Int) (y.toNat : Int) = IntKind.u8.wrap (((BitVec.ofInt 8 (x.toNat : Int) ^^^ BitVec.ofInt 8 (y.toNat : Int)).toNat : Nat) : Int) := rfl
  rw [h, e, e, wr8mod]
  have := (x.toBitVec ^^^ y.toBitVec).isLt
  have h2 : (x ^^^ y).toNat = (x.toBitVec ^^^ y.toBitVec).toNat := rfl
  omega
/-- The first i bytes are turned. -/
def xq (p : List UInt8) (w : UInt8) (i : Nat) : List UInt8 := (p.take i).map (· ^^^ w) ++ p.drop i
theorem xq_len (p : List UInt8) (w : UInt8) (i : Nat) : (xq p w i).length = p.length := by
  rw [xq, List.length_append, List.length_map, List.length_take, List.length_drop]
  omega
theorem xq_zero (p : List UInt8) (w : UInt8) : xq p w 0 = p := by simp [xq]
theorem xq_all (p : List UInt8) (w : UInt8) (i : Nat) (h : p.length ≤ i) : xq p w i = p.map (· ^^^ w) := by
  rw [xq, List.take_of_length_le h, List.drop_of_length_le h, List.append_nil]
theorem xq_get (p : List UInt8) (w : UInt8) (i : Nat) (h : i < p.length) : (xq p w i)[i]? = some p[i] := by
  rw [xq, List.getElem?_append_right (by simp; omega)]
  simp
  rw [show i + (i - min i p.length) = i by omega, List.getElem?_eq_getElem h]
theorem xq_set (p : List UInt8) (w : UInt8) (i : Nat) (h : i < p.length) : List.take i ((xq p w i).map pbyte) ++ [pbyte (p[i] ^^^ w)] ++ List.drop (i + 1) ((xq p w i).map pbyte) = (xq p w (i + 1)).map pbyte := by
  have hl : ((p.take i).map (· ^^^ w)).length = i := by simp; omega
  have e1 : List.take i (xq p w i) = (p.take i).map (· ^^^ w) := by
    rw [xq, List.take_append_of_le_length (by omega), List.take_of_length_le (by omega)]
  have e2 : List.drop (i + 1) (xq p w i) = p.drop (i + 1) := by
    rw [xq, List.drop_append, hl, List.drop_of_length_le (by omega), List.nil_append, show i + 1 - i = 1 by omega, List.drop_drop]
  rw [← List.map_take, ← List.map_drop, e1, e2, xq, List.take_add_one, List.getElem?_eq_getElem h]
  simp only [List.map_append, List.map_cons, List.map_nil, Option.toList_some, List.append_assoc]
set_option maxRecDepth 100000 in
set_option maxHeartbeats 8000000 in
theorem macf_c (G : Globs) (k : List UInt8) (w : UInt8) (hk : k.length ≤ 64) : PCalls Tryd.prog G 84 [pbyte w, .iptr [pstr k] 0] [] (fun res H => res = pstr (macP k w) ∧ H = []) := by
  have hzl := zpad_len k hk
  obtain ⟨p, hp⟩ : ∃ p, p = zpad k := ⟨_, rfl⟩
  have hmp : macP k w = p.map (· ^^^ w) := by rw [hp]; rfl
  have hpl : p.length = 64 := by rw [hp]; exact hzl
  have hcells : List.take (min k.length 64) (bytes k) ++ List.drop (min k.length 64) (List.replicate 64 (pint .u8 0)) = p.map pbyte := by
    rw [Nat.min_eq_left hk, List.take_of_length_le (by rw [bytes_length]; omega), List.drop_replicate, hp, zpad, List.map_append, List.map_replicate]
    rfl
  (refine PCalls_f Tryd.func84 rfl Tryd.ntmps84 Tryd.results84 (by simp) fun fin hfin => ?_; have hnm : True := trivial; simp only [ev, simprocAttr])
  repeat' (first
    | (with_reducible apply W_seq_k; intro nx hnx)
    | (with_reducible first | refine wr 571 ?_ | refine wd (id := 2) 571 1 (.op 0 true (.op 1 true (.op 2 false (.done)))) (by kernel_rfl) ?_)
    | ((with_reducible first | (apply WL_op; intro nx hnx) | refine Ev_out ?_ | refine wc ?_ | (apply popsD_op; intro nx hnx) | (refine popsD_alt ?_ ?_; intro nx hnx) | (refine pf hnm fun nm hnm => ?_; try simp only [fmb] at hnm) | (refine pm hnm fun nm hnm => ?_; try simp only [fmb] at hnm)); try (simp (maxSteps := 2000000) (disch := omega) only [ev, ↓evp, PV.cells, PV.one, PV.mem?, Value.cells, simprocAttr, hnm, Tryd.tf0, Tryd.tf3, Tryd.tf5, Tryd.tf9, Tryd.tf27, Tryd.tf76]))
    | ((with_reducible first | apply W_block | apply W_scope | apply WL_nil | apply W_label | apply W_skip | apply W_exit | apply W_ret | apply popsD_done | exact popsD_stop) <;> try simp only [kks, simprocAttr])
    | (with_reducible apply pg <;> (intro hc; (try simp only [hcb, simprocAttr, ne_eq, forall_const] at hc); first | (exfalso; omega) | exact absurd trivial hc | skip))
    | (with_reducible apply hnx; clear hnx nx)
    | (with_reducible refine And.intro (by omega) ?_)
    | (with_reducible refine And.intro ?_ ?_)
    | (clear hnx nx; with_reducible apply hnx; clear hnx nx)
    | (clear hnx nx; clear hnx nx; with_reducible apply hnx; clear hnx nx))
  refine W_loop_k (fun z τ => ∃ (i : Nat) (u : List UInt8), i ≤ 64 ∧ z = 64 - i ∧ u = xq p w i ∧ τ = ⟨fr 21 [(9, pint .i64 i), (4, .ptr nm 0), (0, pbyte w)], [(nm, ⟨76, false, 0, u.map pbyte⟩)]⟩) 64
    ⟨fr 21 [(9, pint .i64 (0 : Nat)), (4, .ptr nm 0), (0, pbyte w)], [(nm, ⟨76, false, 0, p.map pbyte⟩)]⟩ (by
    refine Wk_fr (by simp only [wkb, simprocAttr]) ?_
    refine ⟨fun x hx => ?_, by simp [names]⟩
    rw [← hcells] at hx
    exact hx) ⟨0, p, by omega, by omega, (xq_zero p w).symm, rfl⟩ ?_
  rintro z τ ⟨i, u, hi, rfl, hu, rfl⟩ lp hlp
  have hul : u.length = 64 := by rw [hu, xq_len, hpl]
  by_cases hi2 : i < 64
  · obtain ⟨x, hx⟩ : ∃ x, x = p[i] := ⟨_, rfl⟩
    have hg := xq_get p w i (by omega)
    have hset := xq_set p w i (by omega)
    rw [← hx] at hg hset
    rw [← hu] at hg hset
    have hg2 : u[i]'(by omega) = x := by
      rw [List.getElem?_eq_getElem (by omega)] at hg
      exact Option.some.inj hg
    have hxw := b_xor x w
    repeat' (first
    | (with_reducible apply W_seq_k; intro nx hnx)
    | (with_reducible first | refine wr 571 ?_ | refine wd (id := 2) 571 1 (.op 0 true (.op 1 true (.op 2 false (.done)))) (by kernel_rfl) ?_)
    | ((with_reducible first | (apply WL_op; intro nx hnx) | refine Ev_out ?_ | refine wc ?_ | (apply popsD_op; intro nx hnx) | (refine popsD_alt ?_ ?_; intro nx hnx) | (refine pf hnm fun nm hnm => ?_; try simp only [fmb] at hnm) | (refine pm hnm fun nm hnm => ?_; try simp only [fmb] at hnm)); try (simp (maxSteps := 2000000) (disch := omega) only [ev, ↓evp, PV.cells, PV.one, PV.mem?, Value.cells, simprocAttr, hnm, Tryd.tf0, Tryd.tf3, Tryd.tf5, Tryd.tf9, Tryd.tf27, Tryd.tf76, hul, hg, hg2, hxw, hset]))
    | ((with_reducible first | apply W_block | apply W_scope | apply WL_nil | apply W_label | apply W_skip | apply W_exit | apply W_ret | apply popsD_done | exact popsD_stop) <;> try simp only [kks, simprocAttr])
    | (with_reducible apply pg <;> (intro hc; (try simp only [hcb, simprocAttr, ne_eq, forall_const] at hc); first | (exfalso; omega) | exact absurd trivial hc | skip))
    | (with_reducible apply hnx; clear hnx nx)
    | (with_reducible refine And.intro (by omega) ?_)
    | (with_reducible refine And.intro ?_ ?_)
    | (clear hnx nx; with_reducible apply hnx; clear hnx nx)
    | (clear hnx nx; clear hnx nx; with_reducible apply hnx; clear hnx nx))
    all_goals first
      | (exfalso
         omega)
      | (refine hlp _ (64 - (i + 1)) _ (by omega) ?_ ⟨i + 1, xq p w (i + 1), by omega, rfl, rfl, rfl⟩
         exact Wk_fr (by simp only [wkb, simprocAttr]) ⟨by simp, by simp [names]⟩)
  · have hi3 : i = 64 := by omega
    subst hi3
    have huf : u = macP k w := by rw [hu, xq_all p w 64 (by omega), hmp]
    have hb1 := isByte_pb u
    have hb2 := unb_pb u
    have htu : List.take 64 (u.map pbyte) = u.map pbyte := List.take_of_length_le (by simp [hul])
    rw [← huf] at hfin
    repeat' (first
    | (with_reducible apply W_seq_k; intro nx hnx)
    | (with_reducible first | refine wr 571 ?_ | refine wd (id := 2) 571 1 (.op 0 true (.op 1 true (.op 2 false (.done)))) (by kernel_rfl) ?_)
    | ((with_reducible first | (apply WL_op; intro nx hnx) | refine Ev_out ?_ | refine wc ?_ | (apply popsD_op; intro nx hnx) | (refine popsD_alt ?_ ?_; intro nx hnx) | (refine pf hnm fun nm hnm => ?_; try simp only [fmb] at hnm) | (refine pm hnm fun nm hnm => ?_; try simp only [fmb] at hnm)); try (simp (maxSteps := 2000000) (disch := omega) only [ev, ↓evp, PV.cells, PV.one, PV.mem?, Value.cells, simprocAttr, hnm, Tryd.tf0, Tryd.tf3, Tryd.tf5, Tryd.tf9, Tryd.tf27, Tryd.tf76, hul, hb1, hb2, htu]))
    | ((with_reducible first | apply W_block | apply W_scope | apply WL_nil | apply W_label | apply W_skip | apply W_exit | apply W_ret | apply popsD_done | exact popsD_stop) <;> try simp only [kks, simprocAttr])
    | (with_reducible apply pg <;> (intro hc; (try simp only [hcb, simprocAttr, ne_eq, forall_const] at hc); first | (exfalso; omega) | exact absurd trivial hc | skip))
    | (with_reducible apply hnx; clear hnx nx)
    | (with_reducible refine And.intro (by omega) ?_)
    | (with_reducible refine And.intro ?_ ?_)
    | (clear hnx nx; with_reducible apply hnx; clear hnx nx)
    | (clear hnx nx; clear hnx nx; with_reducible apply hnx; clear hnx nx))
    all_goals first
      | exact rfl
      | (exfalso
         omega)
      | (refine hfin _ _ (Fin_ret1 rfl (Sub_nil _) ?_); simp only [cob, simprocAttr]; first | trivial | exact ⟨rfl, by trivial⟩ | (simp; done) | (simp; omega))
end Go.PM
