/- Joined texts (HMh HKd HDo HDp HKe HDe HDn HPa): the machine, the contracts, the laws. Conditions: none but those that each names. -/
import Derived.Test.YtpijanidieamlaaDoorJf
set_option linter.unusedSimpArgs false
set_option linter.unusedVariables false
namespace Go.PM
open Go.Proofs
attribute [local irreducible] W PCalls pcall pcallI WL
theorem shr_op (k l : Nat) (hl : l ≤ 6) : Int.fdiv (k : Int) (2 ^ min l IntKind.i64.bits) = ((k / 2 ^ l : Nat) : Int) := by
  have h1 : min l IntKind.i64.bits = l := by simp only [IntKind.bits]; omega
  rw [h1, Int.fdiv_eq_ediv_of_nonneg _ (by exact_mod_cast Nat.zero_le _)]
  norm_cast
theorem xor_sib : ∀ j : _root_.Fin 128, bits .xor .i64 (j.val : Int) 1 = ((sib j.val : Nat) : Int) := by decide +kernel
set_option maxRecDepth 100000 in
set_option maxHeartbeats 8000000 in
theorem hsign_c (G : Globs) (hG : G 0 = .iptr (KS.map pw) 0) (seed : List UInt8) (n i : Int) (msg : List UInt8) (hs : seed.length ≤ 4000) (hi : inR i) (hm : msg.length ≤ 4000) :
    PCalls Tryd.prog G 25 [pstr seed, pint .i64 n, pint .i64 i, pstr msg] [] (fun res H => res = .tuple [pstr (signF seed n i msg).1, pint .i64 (signF seed n i msg).2] ∧ H = []) := by
  have c0 := valid_c G n
  (refine PCalls_f Tryd.func25 rfl Tryd.ntmps25 Tryd.results25 (by simp) fun fin hfin => ?_; have hnm : True := trivial; simp only [ev, simprocAttr])
  by_cases hf : seed.length = 32 ∧ 0 ≤ n ∧ n ≤ 6
  · have hl := hf.1
    rw [decide_eq_true hf.2] at c0
    obtain ⟨h, rfl⟩ : ∃ h : Nat, n = h := ⟨n.toNat, by omega⟩
    have hh : h ≤ 6 := by omega
    have hsh := shl_op ⟨h, by omega⟩
    simp only at hsh
    obtain ⟨w, hw⟩ : ∃ w, w = 2 ^ h := ⟨_, rfl⟩
    have hw64 := pow_le64 h hh
    rw [← hw] at hsh hw64
    by_cases hb : i < 0 ∨ (w : Int) ≤ i
    · have hp : signF seed h i msg = ([], 23) := by
        rw [signF, if_neg (by simpa using hf), if_pos (by rw [Int.toNat_natCast]; rw [hw] at hb; exact_mod_cast hb)]
      simp only [hp] at hfin
      repeat' (first
    | (with_reducible apply W_seq_k; intro nx hnx)
    | (with_reducible first | refine wr 885451596837406506767 ?_)
    | ((with_reducible first | (apply WL_op; intro nx hnx) | refine Ev_out ?_ | refine wc ?_ | (refine pf hnm fun nm hnm => ?_; try simp only [fmb] at hnm) | (refine pm hnm fun nm hnm => ?_; try simp only [fmb] at hnm)); try (simp (maxSteps := 2000000) (disch := omega) only [ev, ↓evp, PV.cells, PV.one, PV.mem?, Value.cells, simprocAttr, hnm, Tryd.tf0, Tryd.tf3, Tryd.tf4, Tryd.tf5, Tryd.tf9, Tryd.tf22, Tryd.tf27, Tryd.tf28, Tryd.tf37, Tryd.tf90, Tryd.tf94, Tryd.tf97, Tryd.call23, Tryd.call40, Tryd.call41, Tryd.call42, Tryd.call43, Tryd.call44, Tryd.call45, Tryd.call46, Tryd.call47, hl, hsh]))
    | ((with_reducible first | apply W_block | apply W_scope | apply WL_nil | apply W_label | apply W_skip | apply W_exit | apply W_ret) <;> try simp only [kks, simprocAttr])
    | (with_reducible apply pg <;> (intro hc; (try simp only [hcb, simprocAttr, ne_eq, forall_const] at hc); first | (exfalso; omega) | exact absurd trivial hc | skip))
    | (with_reducible apply hnx; clear hnx nx)
    | (with_reducible refine And.intro (by omega) ?_)
    | (with_reducible refine And.intro ?_ ?_)
    | (with_reducible refine pe (c0) ?_)
    | (clear hnx nx; with_reducible apply hnx; clear hnx nx)
    | (clear hnx nx; clear hnx nx; with_reducible apply hnx; clear hnx nx))
      all_goals first
        | exact absurd trivial hc
        | exact rfl
        | (exfalso
           omega)
        | (intro hh
           exfalso
           simp at hh
           done)
        | (intro hh
           exfalso
           simp at hh
           omega)
        | (refine hfin _ _ (Fin_ret2 rfl rfl (Sub_nil _) ?_); simp only [cob, simprocAttr]; first | trivial | exact ⟨rfl, by trivial⟩ | (simp; done) | (simp; omega))
    · have hp : signF seed h i msg = (sigT seed h i.toNat msg, 0) := by
        rw [signF, if_neg (by simpa using hf), if_neg (by rw [Int.toNat_natCast]; rw [hw] at hb; exact_mod_cast hb), Int.toNat_natCast]
      simp only [hp] at hfin
      clear hp
      obtain ⟨k, rfl⟩ : ∃ k : Nat, i = k := ⟨i.toNat, by omega⟩
      have hkw : k < w := by omega
      simp only [Int.toNat_natCast] at hfin
      have hk0 : (k : Int) < (w : Int) := by omega
      have hk1 : ¬ (k : Int) < 0 := by omega
      have hk2 : ¬ (w : Int) ≤ (k : Int) := by omega
      have h9 := intB_len9 hi
      have hm2 : ¬ 1048576 < (msg.length : Int) := by omega
      have hca : callable Tryd.prog 65 = true := by kernel_rfl
      repeat' (first
    | (with_reducible apply W_seq_k; intro nx hnx)
    | (with_reducible first | refine wr 885451596837406506767 ?_)
    | ((with_reducible first | (apply WL_op; intro nx hnx) | refine Ev_out ?_ | refine wc ?_ | (refine pf hnm fun nm hnm => ?_; try simp only [fmb] at hnm) | (refine pm hnm fun nm hnm => ?_; try simp only [fmb] at hnm)); try (simp (maxSteps := 2000000) (disch := omega) only [ev, ↓evp, PV.cells, PV.one, PV.mem?, Value.cells, simprocAttr, hnm, Tryd.tf0, Tryd.tf3, Tryd.tf4, Tryd.tf5, Tryd.tf9, Tryd.tf22, Tryd.tf27, Tryd.tf28, Tryd.tf37, Tryd.tf90, Tryd.tf94, Tryd.tf97, Tryd.call23, Tryd.call40, Tryd.call41, Tryd.call42, Tryd.call43, Tryd.call44, Tryd.call45, Tryd.call46, Tryd.call47, hl, hk0, hk1, hk2, hsh, hm2]))
    | ((with_reducible first | apply W_block | apply W_scope | apply WL_nil | apply W_label | apply W_skip | apply W_exit | apply W_ret) <;> try simp only [kks, simprocAttr])
    | (with_reducible apply pg <;> (intro hc; (try simp only [hcb, simprocAttr, ne_eq, forall_const] at hc); first | (exfalso; omega) | exact absurd trivial hc | skip))
    | (with_reducible apply hnx; clear hnx nx)
    | (with_reducible refine And.intro (by omega) ?_)
    | (with_reducible refine And.intro ?_ ?_)
    | (with_reducible refine pe (c0) ?_)
    | (clear hnx nx; with_reducible apply hnx; clear hnx nx)
    | (clear hnx nx; clear hnx nx; with_reducible apply hnx; clear hnx nx))
      all_goals first
        | exact absurd trivial hc
        | exact rfl
        | (exfalso
           omega)
        | (intro hh
           exfalso
           simp at hh
           done)
        | (intro hh
           exfalso
           simp at hh
           omega)
        | skip
      refine pcall_k (nodes_c G seed) ?_
      rintro _ _ ⟨a, m, M, s, rfl, rfl⟩ hd
      have c4 := wint_c G k hi.1 hi.2
      have b1 := isByte_pb (intB k)
      have b2 := unb_pb (intB k)
      refine Ev_in ?_
      obtain ⟨e, he⟩ : ∃ e, e = intB (k : Int) := ⟨_, rfl⟩
      rw [← he] at c4 b1 b2 h9
      have hen : e ≠ [] := by
        rintro rfl
        simp at h9
      repeat' (first
    | (with_reducible apply W_seq_k; intro nx hnx)
    | (with_reducible first | refine wr 885451596837406506767 ?_)
    | ((with_reducible first | (apply WL_op; intro nx hnx) | refine Ev_out ?_ | refine wc ?_ | (refine pf hnm fun nm hnm => ?_; try simp only [fmb] at hnm) | (refine pm hnm fun nm hnm => ?_; try simp only [fmb] at hnm)); try (simp (maxSteps := 2000000) (disch := omega) only [ev, ↓evp, PV.cells, PV.one, PV.mem?, Value.cells, simprocAttr, hnm, Tryd.tf0, Tryd.tf3, Tryd.tf4, Tryd.tf5, Tryd.tf9, Tryd.tf22, Tryd.tf27, Tryd.tf28, Tryd.tf37, Tryd.tf90, Tryd.tf94, Tryd.tf97, Tryd.call23, Tryd.call40, Tryd.call41, Tryd.call42, Tryd.call43, Tryd.call44, Tryd.call45, Tryd.call46, Tryd.call47, hca]))
    | ((with_reducible first | apply W_block | apply W_scope | apply WL_nil | apply W_label | apply W_skip | apply W_exit | apply W_ret) <;> try simp only [kks, simprocAttr])
    | (with_reducible apply pg <;> (intro hc; (try simp only [hcb, simprocAttr, ne_eq, forall_const] at hc); first | (exfalso; omega) | exact absurd trivial hc | skip))
    | (with_reducible apply hnx; clear hnx nx)
    | (with_reducible refine And.intro (by omega) ?_)
    | (with_reducible refine And.intro ?_ ?_)
    | (with_reducible refine pe (c4) ?_)
    | (clear hnx nx; with_reducible apply hnx; clear hnx nx)
    | (clear hnx nx; clear hnx nx; with_reducible apply hnx; clear hnx nx))
      obtain ⟨NB, hNB⟩ : ∃ N, N = nm := ⟨_, rfl⟩
      subst hNB
      refine pcall_midn [] [(NB, ⟨94, false, 0, [.val (.pointer none), pnil]⟩)] (HM a m M s seed []) rfl (writeL_c G NB [] e hen (by omega) (by simp) _ (.inl ⟨rfl, rfl⟩)) ?_
      rintro _ HB ⟨rfl, hB⟩ nd
      rw [List.nil_append] at hB nd
      have cn := node_at G hG seed hs a m M s h 0 [] (by omega) (by rw [← hw]; omega)
      have cn : PCalls Tryd.prog G 65 [pint .i64 h, .val (.int .i64 0), .ptr m 0, .ptr s 0, .ptr a 0] (HM a m M s seed []) (NRes a m M s seed h 0) := cn
      have hRf : ∀ res H, NRes a m M s seed h 0 res H → res = .agg ((nodeV seed h 0).map pbyte) ∧ ∃ T', H = HM a m M s seed T' := fun _ _ h => h
      generalize NRes a m M s seed h 0 = R at *
      have hvl := nodeV_len seed h 0
      have c2 := hdig_c G hG (nodeV seed h 0) k msg hvl hi hm
      have hdl := digestF_len (nodeV seed h 0) k msg
      have c3 := dig_c G (digestF (nodeV seed h 0) k msg) hdl
      have hqg := digF_get (digestF (nodeV seed h 0) k msg)
      have hql := digF_lt (digestF (nodeV seed h 0) k msg)
      have hqn := digF_len (digestF (nodeV seed h 0) k msg)
      have hsig : sigT seed h k msg = intB k ++ catF (sigV seed k (digF (digestF (nodeV seed h 0) k msg))) 68 ++ catF (patV seed k) h := rfl
      rw [← he] at hsig
      generalize sigT seed h k msg = S at *
      generalize digF (digestF (nodeV seed h 0) k msg) = q at *
      generalize digestF (nodeV seed h 0) k msg = d at *
      generalize nodeV seed h 0 = v at *
      have ho := all_one_byte v
      have hl2 : (v.map pbyte).length = 16 := by rw [List.length_map, hvl]
      have tv : List.take 16 (v.map pbyte) = v.map pbyte := List.take_of_length_le (by omega)
      have hlenS := catF_len (sigV_len seed k q)
      have hq2 : (q.map pn').length = 68 := by rw [List.length_map, hqn]
      refine Ev_in ?_
      repeat' (first
    | (with_reducible apply W_seq_k; intro nx hnx)
    | (with_reducible first | refine wr 885451596837406506767 ?_)
    | ((with_reducible first | (apply WL_op; intro nx hnx) | refine Ev_out ?_ | refine wc ?_ | (refine pf hnm fun nm hnm => ?_; try simp only [fmb] at hnm) | (refine pm hnm fun nm hnm => ?_; try simp only [fmb] at hnm)); try (simp (maxSteps := 2000000) (disch := omega) only [ev, ↓evp, PV.cells, PV.one, PV.mem?, Value.cells, simprocAttr, hnm, Tryd.tf0, Tryd.tf3, Tryd.tf4, Tryd.tf5, Tryd.tf9, Tryd.tf22, Tryd.tf27, Tryd.tf28, Tryd.tf37, Tryd.tf90, Tryd.tf94, Tryd.tf97, Tryd.call23, Tryd.call40, Tryd.call41, Tryd.call42, Tryd.call43, Tryd.call44, Tryd.call45, Tryd.call46, Tryd.call47, hca, hq2]))
    | ((with_reducible first | apply W_block | apply W_scope | apply WL_nil | apply W_label | apply W_skip | apply W_exit | apply W_ret) <;> try simp only [kks, simprocAttr])
    | (with_reducible apply pg <;> (intro hc; (try simp only [hcb, simprocAttr, ne_eq, forall_const] at hc); first | (exfalso; omega) | exact absurd trivial hc | skip))
    | (with_reducible apply hnx; clear hnx nx)
    | (with_reducible refine And.intro (by omega) ?_)
    | (with_reducible refine And.intro ?_ ?_)
    | (with_reducible refine pe (c2) ?_)
    | (with_reducible refine pe (c3) ?_)
    | ((refine pcall_midn HB (HM a m M s seed []) [] (by simp) cn ?_; intro r1 H1 hr1 nd2; obtain ⟨rfl, T1, rfl⟩ := hRf _ _ hr1; refine Ev_in ?_))
    | (clear hnx nx; with_reducible apply hnx; clear hnx nx)
    | (clear hnx nx; clear hnx nx; with_reducible apply hnx; clear hnx nx))
      all_goals first
        | exact absurd trivial hc
        | exact rfl
        | (exfalso
           omega)
        | skip
      clear cn hRf hr1 hvl c2 c3 hdl ho hl2 tv c0 c4 hd
      refine W_loop_k (fun z τ => ∃ (c : Nat) (u : List UInt8) (HB : Heap), c ≤ 68 ∧ z = 68 - c ∧ u = e ++ catF (sigV seed k q) c ∧ BS NB u HB ∧ (names (HB ++ HM a m M s seed T1)).Nodup ∧
          τ = ⟨fr 83 [(52, pint .i64 c), (51, pint .i64 68), (50, .list 1 (q.map pn')), (11, .ptr NB 0), (10, .func 65 [.ptr m 0, .ptr s 0, .ptr a 0]), (0, pstr seed), (1, pint .i64 h), (2, pint .i64 k)], HB ++ HM a m M s seed T1⟩) 68
        ⟨fr 83 [(52, pint .i64 (0 : Nat)), (51, pint .i64 68), (50, .list 1 (q.map pn')), (11, .ptr NB 0), (10, .func 65 [.ptr m 0, .ptr s 0, .ptr a 0]), (0, pstr seed), (1, pint .i64 h), (2, pint .i64 k)], HB ++ HM a m M s seed T1⟩ (by
        refine Wk_fr (by simp only [wkb, simprocAttr]) ?_
        exact Sub_refl (by simpa using nd2)) ⟨0, e, HB, by omega, by omega, by rw [catF_zero, List.append_nil], hB, by simpa using nd2, rfl⟩ ?_
      clear hB nd nd2
      rintro z τ ⟨c, u, HB, hc, rfl, hsc, hB, nd, rfl⟩ lp hlp
      have hsl : u.length ≤ 9 + 16 * c := by rw [hsc, List.length_append, hlenS]; omega
      by_cases hlt : c < 68
      · have hcR : inR (c : Int) := ⟨by omega, by omega⟩
        have hg := hqg c hlt
        have hgl := hql c
        have hg3 : (q.map pn').getD c PV.junk = pint .i64 (q.getD c 0 : Nat) := by rw [List.getD_eq_getElem?_getD, hg]; rfl
        have d1 := start_c G hG seed hs k c hi hcR
        have d2 := adv_c G hG k c 0 (q.getD c 0 : Nat) (startF seed k c) hi hcR (by omega) (by omega) (by omega) (by omega) (startF_len _ _ _)
        rw [show advF k c 0 (((q.getD c 0 : Nat) : Int) - 0).toNat (startF seed k c) = sigV seed k q c from rfl] at d2
        have hsu := catF_succ (sigV seed k q) c
        have htl := sigV_len seed k q c
        obtain ⟨y, hy⟩ : ∃ y, y = u ++ sigV seed k q c := ⟨_, rfl⟩
        have hyl : y = e ++ catF (sigV seed k q) (c + 1) := by rw [hy, hsc, hsu, List.append_assoc]
        generalize sigV seed k q c = x at *
        generalize startF seed k c = v1 at *
        generalize q.getD c 0 = x0 at *
        have cw := fun v => writeA_c G NB v u x htl (by omega) HB hB
        rw [← hy] at cw
        have hxl : (x.map pbyte).length = 16 := by rw [List.length_map, htl]
        have tx : List.take 16 (x.map pbyte) = x.map pbyte := List.take_of_length_le (by omega)
        have hxo := all_one_byte x
        repeat' (first
    | (with_reducible apply W_seq_k; intro nx hnx)
    | (with_reducible first | refine wr 885451596837406506767 ?_)
    | ((with_reducible first | (apply WL_op; intro nx hnx) | refine Ev_out ?_ | refine wc ?_ | (refine pf hnm fun nm hnm => ?_; try simp only [fmb] at hnm) | (refine pm hnm fun nm hnm => ?_; try simp only [fmb] at hnm)); try (simp (maxSteps := 2000000) (disch := omega) only [ev, ↓evp, PV.cells, PV.one, PV.mem?, Value.cells, simprocAttr, hnm, Tryd.tf0, Tryd.tf3, Tryd.tf4, Tryd.tf5, Tryd.tf9, Tryd.tf22, Tryd.tf27, Tryd.tf28, Tryd.tf37, Tryd.tf90, Tryd.tf94, Tryd.tf97, Tryd.call23, Tryd.call40, Tryd.call41, Tryd.call42, Tryd.call43, Tryd.call44, Tryd.call45, Tryd.call46, Tryd.call47, htl, hg, hg3, hq2, hxl, tx, hxo]))
    | ((with_reducible first | apply W_block | apply W_scope | apply WL_nil | apply W_label | apply W_skip | apply W_exit | apply W_ret) <;> try simp only [kks, simprocAttr])
    | (with_reducible apply pg <;> (intro hc; (try simp only [hcb, simprocAttr, ne_eq, forall_const] at hc); first | (exfalso; omega) | exact absurd trivial hc | skip))
    | (with_reducible apply hnx; clear hnx nx)
    | (with_reducible refine And.intro (by omega) ?_)
    | (with_reducible refine And.intro ?_ ?_)
    | (with_reducible refine pe (d1) ?_)
    | (with_reducible refine pe (d2) ?_)
    | ((refine pcall_midn [] (_ :: HB) (HM a m M s seed T1) rfl (cw _) ?_; rintro _ H2 ⟨rfl, hB2⟩ nd2; refine Ev_in ?_))
    | (clear hnx nx; with_reducible apply hnx; clear hnx nx)
    | (clear hnx nx; clear hnx nx; with_reducible apply hnx; clear hnx nx))
        all_goals first
          | exact rfl
          | (exfalso
             omega)
          | (refine hlp _ (68 - (c + 1)) _ (by omega) ?_ ⟨c + 1, y, H2, by omega, rfl, hyl, hB2, nd2, rfl⟩
             refine Wk_fr (by simp only [wkb, simprocAttr]) ?_
             exact Sub_refl nd2)
      · obtain rfl : c = 68 := by omega
        have hlenP := catF_len (patV_len seed k)
        clear hqg hql
        repeat' (first
    | (with_reducible apply W_seq_k; intro nx hnx)
    | (with_reducible first | refine wr 885451596837406506767 ?_)
    | ((with_reducible first | (apply WL_op; intro nx hnx) | refine Ev_out ?_ | refine wc ?_ | (refine pf hnm fun nm hnm => ?_; try simp only [fmb] at hnm) | (refine pm hnm fun nm hnm => ?_; try simp only [fmb] at hnm)); try (simp (maxSteps := 2000000) (disch := omega) only [ev, ↓evp, PV.cells, PV.one, PV.mem?, Value.cells, simprocAttr, hnm, Tryd.tf0, Tryd.tf3, Tryd.tf4, Tryd.tf5, Tryd.tf9, Tryd.tf22, Tryd.tf27, Tryd.tf28, Tryd.tf37, Tryd.tf90, Tryd.tf94, Tryd.tf97, Tryd.call23, Tryd.call40, Tryd.call41, Tryd.call42, Tryd.call43, Tryd.call44, Tryd.call45, Tryd.call46, Tryd.call47]))
    | ((with_reducible first | apply W_block | apply W_scope | apply WL_nil | apply W_label | apply W_skip | apply W_exit | apply W_ret) <;> try simp only [kks, simprocAttr])
    | (with_reducible apply pg <;> (intro hc; (try simp only [hcb, simprocAttr, ne_eq, forall_const] at hc); first | (exfalso; omega) | exact absurd trivial hc | skip))
    | (with_reducible apply hnx; clear hnx nx)
    | (with_reducible refine And.intro (by omega) ?_)
    | (with_reducible refine And.intro ?_ ?_)
    | (clear hnx nx; with_reducible apply hnx; clear hnx nx)
    | (clear hnx nx; clear hnx nx; with_reducible apply hnx; clear hnx nx))
        refine W_loop_k (fun z τ => ∃ (l : Nat) (y : List UInt8) (HB : Heap) (T : List (Nat × Nat)), l ≤ h ∧ z = h - l ∧ y = u ++ catF (patV seed k) l ∧ BS NB y HB ∧ (names (HB ++ HM a m M s seed T)).Nodup ∧
            τ = ⟨fr 83 [(69, pint .i64 l), (68, pint .i64 h), (11, .ptr NB 0), (10, .func 65 [.ptr m 0, .ptr s 0, .ptr a 0]), (2, pint .i64 k)], HB ++ HM a m M s seed T⟩) h
          ⟨fr 83 [(69, pint .i64 (0 : Nat)), (68, pint .i64 h), (11, .ptr NB 0), (10, .func 65 [.ptr m 0, .ptr s 0, .ptr a 0]), (2, pint .i64 k)], HB ++ HM a m M s seed T1⟩ (by
          refine Wk_fr (by simp only [wkb, simprocAttr]) ?_
          exact Sub_refl nd) ⟨0, u, HB, T1, by omega, by omega, by rw [catF_zero, List.append_nil], hB, nd, rfl⟩ ?_
        clear hB nd
        rintro z τ ⟨l, y, HB, T, hl6, rfl, hy, hB, nd, rfl⟩ lp2 hlp2
        have hyl : y.length ≤ 9 + 16 * 68 + 16 * l := by rw [hy, List.length_append, hlenP]; omega
        by_cases hlh : l < h
        · have g1 := shr_op k l (by omega)
          have hj64 : k / 2 ^ l ≤ 64 := Nat.le_trans (Nat.div_le_self _ _) (by omega)
          have g2 := xor_sib ⟨k / 2 ^ l, by omega⟩
          simp only at g2
          have hpv : patV seed k l = nodeV seed l (sib (k / 2 ^ l)) := rfl
          have hsu := catF_succ (patV seed k) l
          rw [hpv] at hsu
          generalize k / 2 ^ l = j at *
          have hsb : sib j ≤ 65 := by unfold sib; split <;> omega
          have hp6 : 2 ^ l ≤ 64 := pow_le64 l (by omega)
          have cn := node_at G hG seed hs a m M s l (sib j) T (by omega) (Nat.le_trans (Nat.mul_le_mul (show sib j + 1 ≤ 66 by omega) hp6) (by omega))
          have hRf : ∀ res H, NRes a m M s seed l (sib j) res H → res = .agg ((nodeV seed l (sib j)).map pbyte) ∧ ∃ T', H = HM a m M s seed T' := fun _ _ h => h
          generalize NRes a m M s seed l (sib j) = R at *
          have htl := nodeV_len seed l (sib j)
          obtain ⟨y2, hy2⟩ : ∃ y2, y2 = y ++ nodeV seed l (sib j) := ⟨_, rfl⟩
          have hyu : y2 = u ++ catF (patV seed k) (l + 1) := by rw [hy2, hy, hsu, List.append_assoc]
          generalize nodeV seed l (sib j) = x at *
          generalize sib j = j2 at *
          have cw := fun v => writeA_c G NB v y x htl (by omega) HB hB
          rw [← hy2] at cw
          have hxl : (x.map pbyte).length = 16 := by rw [List.length_map, htl]
          have tx : List.take 16 (x.map pbyte) = x.map pbyte := List.take_of_length_le (by omega)
          have hxo := all_one_byte x
          repeat' (first
    | (with_reducible apply W_seq_k; intro nx hnx)
    | (with_reducible first | refine wr 885451596837406506767 ?_)
    | ((with_reducible first | (apply WL_op; intro nx hnx) | refine Ev_out ?_ | refine wc ?_ | (refine pf hnm fun nm hnm => ?_; try simp only [fmb] at hnm) | (refine pm hnm fun nm hnm => ?_; try simp only [fmb] at hnm)); try (simp (maxSteps := 2000000) (disch := omega) only [ev, ↓evp, PV.cells, PV.one, PV.mem?, Value.cells, simprocAttr, hnm, Tryd.tf0, Tryd.tf3, Tryd.tf4, Tryd.tf5, Tryd.tf9, Tryd.tf22, Tryd.tf27, Tryd.tf28, Tryd.tf37, Tryd.tf90, Tryd.tf94, Tryd.tf97, Tryd.call23, Tryd.call40, Tryd.call41, Tryd.call42, Tryd.call43, Tryd.call44, Tryd.call45, Tryd.call46, Tryd.call47, hca, g1, g2, htl, hxl, tx, hxo]))
    | ((with_reducible first | apply W_block | apply W_scope | apply WL_nil | apply W_label | apply W_skip | apply W_exit | apply W_ret) <;> try simp only [kks, simprocAttr])
    | (with_reducible apply pg <;> (intro hc; (try simp only [hcb, simprocAttr, ne_eq, forall_const] at hc); first | (exfalso; omega) | exact absurd trivial hc | skip))
    | (with_reducible apply hnx; clear hnx nx)
    | (with_reducible refine And.intro (by omega) ?_)
    | (with_reducible refine And.intro ?_ ?_)
    | ((refine pcall_midn HB (HM a m M s seed T) [] (by simp) cn ?_; intro r1 H1 hr1 nd2; obtain ⟨rfl, T2, rfl⟩ := hRf _ _ hr1; refine Ev_in ?_))
    | ((refine pcall_midn [] (_ :: HB) (HM a m M s seed _) rfl (cw _) ?_; rintro _ H2 ⟨rfl, hB2⟩ nd3; refine Ev_in ?_))
    | (clear hnx nx; with_reducible apply hnx; clear hnx nx)
    | (clear hnx nx; clear hnx nx; with_reducible apply hnx; clear hnx nx))
          all_goals first
            | exact rfl
            | (exfalso
               omega)
            | (refine hlp2 _ (h - (l + 1)) _ (by omega) ?_ ⟨l + 1, y2, H2, T2, by omega, rfl, hyu, hB2, nd3, rfl⟩
               refine Wk_fr (by simp only [wkb, simprocAttr]) ?_
               exact Sub_refl nd3)
        · obtain rfl : l = h := by omega
          have hS : y = S := by rw [hy, hsc, hsig]
          have k0 := string_c G NB y (by omega) HB hB
          rw [hS] at k0
          repeat' (first
    | (with_reducible apply W_seq_k; intro nx hnx)
    | (with_reducible first | refine wr 885451596837406506767 ?_)
    | ((with_reducible first | (apply WL_op; intro nx hnx) | refine Ev_out ?_ | refine wc ?_ | (refine pf hnm fun nm hnm => ?_; try simp only [fmb] at hnm) | (refine pm hnm fun nm hnm => ?_; try simp only [fmb] at hnm)); try (simp (maxSteps := 2000000) (disch := omega) only [ev, ↓evp, PV.cells, PV.one, PV.mem?, Value.cells, simprocAttr, hnm, Tryd.tf0, Tryd.tf3, Tryd.tf4, Tryd.tf5, Tryd.tf9, Tryd.tf22, Tryd.tf27, Tryd.tf28, Tryd.tf37, Tryd.tf90, Tryd.tf94, Tryd.tf97, Tryd.call23, Tryd.call40, Tryd.call41, Tryd.call42, Tryd.call43, Tryd.call44, Tryd.call45, Tryd.call46, Tryd.call47]))
    | ((with_reducible first | apply W_block | apply W_scope | apply WL_nil | apply W_label | apply W_skip | apply W_exit | apply W_ret) <;> try simp only [kks, simprocAttr])
    | (with_reducible apply pg <;> (intro hc; (try simp only [hcb, simprocAttr, ne_eq, forall_const] at hc); first | (exfalso; omega) | exact absurd trivial hc | skip))
    | (with_reducible apply hnx; clear hnx nx)
    | (with_reducible refine And.intro (by omega) ?_)
    | (with_reducible refine And.intro ?_ ?_)
    | ((refine pcall_midn [] HB (HM a m M s seed T) rfl k0 ?_; rintro _ _ ⟨rfl, rfl⟩ nd2; refine Ev_in ?_))
    | (clear hnx nx; with_reducible apply hnx; clear hnx nx)
    | (clear hnx nx; clear hnx nx; with_reducible apply hnx; clear hnx nx))
          all_goals first
            | exact rfl
            | (exfalso
               omega)
            | (refine hfin _ _ (Fin_ret2 rfl rfl (Sub_nil _) ?_); simp only [cob, simprocAttr]; first | trivial | exact ⟨rfl, by trivial⟩ | (simp; done) | (simp; omega))
  · have hp : signF seed n i msg = ([], 1) := by rw [signF, if_pos hf]
    simp only [hp] at hfin
    by_cases hl : seed.length = 32
    · have hv : ¬ (0 ≤ n ∧ n ≤ 6) := fun h => hf ⟨hl, h⟩
      rw [decide_eq_false hv] at c0
      repeat' (first
    | (with_reducible apply W_seq_k; intro nx hnx)
    | (with_reducible first | refine wr 885451596837406506767 ?_)
    | ((with_reducible first | (apply WL_op; intro nx hnx) | refine Ev_out ?_ | refine wc ?_ | (refine pf hnm fun nm hnm => ?_; try simp only [fmb] at hnm) | (refine pm hnm fun nm hnm => ?_; try simp only [fmb] at hnm)); try (simp (maxSteps := 2000000) (disch := omega) only [ev, ↓evp, PV.cells, PV.one, PV.mem?, Value.cells, simprocAttr, hnm, Tryd.tf0, Tryd.tf3, Tryd.tf4, Tryd.tf5, Tryd.tf9, Tryd.tf22, Tryd.tf27, Tryd.tf28, Tryd.tf37, Tryd.tf90, Tryd.tf94, Tryd.tf97, Tryd.call23, Tryd.call40, Tryd.call41, Tryd.call42, Tryd.call43, Tryd.call44, Tryd.call45, Tryd.call46, Tryd.call47, hl]))
    | ((with_reducible first | apply W_block | apply W_scope | apply WL_nil | apply W_label | apply W_skip | apply W_exit | apply W_ret) <;> try simp only [kks, simprocAttr])
    | (with_reducible apply pg <;> (intro hc; (try simp only [hcb, simprocAttr, ne_eq, forall_const] at hc); first | (exfalso; omega) | exact absurd trivial hc | skip))
    | (with_reducible apply hnx; clear hnx nx)
    | (with_reducible refine And.intro (by omega) ?_)
    | (with_reducible refine And.intro ?_ ?_)
    | (with_reducible refine pe (c0) ?_)
    | (clear hnx nx; with_reducible apply hnx; clear hnx nx)
    | (clear hnx nx; clear hnx nx; with_reducible apply hnx; clear hnx nx))
      all_goals first
        | exact absurd trivial hc
        | exact rfl
        | (exfalso
           omega)
        | (intro hh
           exfalso
           simp at hh
           done)
        | (refine hfin _ _ (Fin_ret2 rfl rfl (Sub_nil _) ?_); simp only [cob, simprocAttr]; first | trivial | exact ⟨rfl, by trivial⟩ | (simp; done) | (simp; omega))
    · have hl' : ¬ (seed.length : Int) = 32 := by omega
      repeat' (first
    | (with_reducible apply W_seq_k; intro nx hnx)
    | (with_reducible first | refine wr 885451596837406506767 ?_)
    | ((with_reducible first | (apply WL_op; intro nx hnx) | refine Ev_out ?_ | refine wc ?_ | (refine pf hnm fun nm hnm => ?_; try simp only [fmb] at hnm) | (refine pm hnm fun nm hnm => ?_; try simp only [fmb] at hnm)); try (simp (maxSteps := 2000000) (disch := omega) only [ev, ↓evp, PV.cells, PV.one, PV.mem?, Value.cells, simprocAttr, hnm, Tryd.tf0, Tryd.tf3, Tryd.tf4, Tryd.tf5, Tryd.tf9, Tryd.tf22, Tryd.tf27, Tryd.tf28, Tryd.tf37, Tryd.tf90, Tryd.tf94, Tryd.tf97, Tryd.call23, Tryd.call40, Tryd.call41, Tryd.call42, Tryd.call43, Tryd.call44, Tryd.call45, Tryd.call46, Tryd.call47, hl', hl]))
    | ((with_reducible first | apply W_block | apply W_scope | apply WL_nil | apply W_label | apply W_skip | apply W_exit | apply W_ret) <;> try simp only [kks, simprocAttr])
    | (with_reducible apply pg <;> (intro hc; (try simp only [hcb, simprocAttr, ne_eq, forall_const] at hc); first | (exfalso; omega) | exact absurd trivial hc | skip))
    | (with_reducible apply hnx; clear hnx nx)
    | (with_reducible refine And.intro (by omega) ?_)
    | (with_reducible refine And.intro ?_ ?_)
    | (with_reducible refine pe (c0) ?_)
    | (clear hnx nx; with_reducible apply hnx; clear hnx nx)
    | (clear hnx nx; clear hnx nx; with_reducible apply hnx; clear hnx nx))
      all_goals first
        | exact absurd trivial hc
        | exact rfl
        | (exfalso
           omega)
        | (intro hh
           exfalso
           simp at hh
           done)
        | (refine hfin _ _ (Fin_ret2 rfl rfl (Sub_nil _) ?_); simp only [cob, simprocAttr]; first | trivial | exact ⟨rfl, by trivial⟩ | (simp; done) | (simp; omega))
end Go.PM

namespace Go.PM
open Go.Proofs
attribute [local irreducible] W PCalls pcall pcallI WL
/-- What Encode answers. -/
def encF (seed : List UInt8) (h n : Int) (u v : List (List UInt8)) : List UInt8 × Int :=
  if (signF seed h n (msgM u v)).2 = 0 then (bytesB (msgM u v) ++ bytesB (signF seed h n (msgM u v)).1, 0) else ([], (signF seed h n (msgM u v)).2)
theorem signF_len (seed : List UInt8) (n i : Int) (m : List UInt8) (hi : inR i) : (signF seed n i m).1.length ≤ 2000 := by
  unfold signF
  split
  · simp
  · split
    · simp
    · rename_i h1 h2
      have h9 := intB_len9 (n := ((i.toNat : Nat) : Int)) (by constructor <;> omega)
      unfold sigT
      rw [List.length_append, List.length_append, catF_len (fun _ => sigV_len _ _ _ _), catF_len (fun _ => patV_len _ _ _)]
      omega
/-- Bytes in a row, or none and an error. -/
@[reducible] def EncR (x : List UInt8 × Int) (res : PV) (H : Heap) : Prop := (x.2 = 0 ∧ ∃ N, res = .tuple [.row N 1 x.1.length, pint .i64 0] ∧ H = [(N, ⟨5, true, 1, x.1.map pbyte⟩)]) ∨ (x.1 = [] ∧ res = .tuple [pnil, pint .i64 x.2] ∧ H = [])
theorem EncR.frz {G : Globs} {f : FuncId} {args : List PV} {x : List UInt8 × Int} (h : PCalls Tryd.prog G f args [] (EncR x)) : PCalls Tryd.prog G f args [] (fun res H => res = .tuple [.list 1 (x.1.map pbyte), pint .i64 x.2] ∧ H = []) := by
  refine h.px fun res H hR => ?_
  rcases hR with ⟨h0, N, rfl, rfl⟩ | ⟨h0, rfl, rfl⟩
  · have h2 := Px.freeze (G := G) (.tuple [.row N 1 x.1.length, pint .i64 0]) [(N, ⟨5, true, 1, x.1.map pbyte⟩)] N (o := ⟨5, true, 1, x.1.map pbyte⟩) (by simp only [look, if_true]) (by simp [frzOk, del])
    refine ⟨_, _, h2, ?_, by simp [frzH, del]⟩
    simp only [PM.frz, frz1, if_true, List.map_cons, List.map_nil]
    rw [if_pos ⟨by simp, by omega⟩, elemsOf, if_pos rfl, List.take_of_length_le (by simp), h0]
  · rw [h0]
    exact ⟨_, _, Px.nil2 1 _ _, rfl, rfl⟩
theorem Sub_sw (n : Int) {o : PObj} {H : Heap} : Sub [(n, o)] ((n, o) :: H) := ⟨fun x hx => by
  rw [List.mem_singleton] at hx
  subst hx
  exact List.mem_cons_self, by simp [names]⟩
@[reducible] def keyP (s : List UInt8) (h : Int) : PV := .agg [pstr s, pint .i64 h]
set_option maxRecDepth 100000
set_option maxHeartbeats 8000000
theorem encode_r (G : Globs) (hG : G 0 = .iptr (KS.map pw) 0) (seed : List UInt8) (h n : Int) (u v : List (List UInt8)) (hs : seed.length ≤ 4000) (hn : inR n) (hu : Small u) (hv : Small v) :
    PCalls Tryd.prog G 8 [keyP seed h, pint .i64 n, .list 1 (u.map pstr), .list 1 (v.map pstr)] [] (EncR (encF seed h n u v)) := by
  obtain ⟨d1, d2, d3⟩ := diff_small hu hv
  have hpl := preM_len hu hv
  have hpos := preM_pos hu hv
  have hp0 : preM u v 0 = encL id [dgL u, dgL v] ++ intB (diffL u v).length := by simp [preM]
  have hst := fun i (h : i < (diffL u v).length) => preM_step (u := u) (v := v) (i := i) h
  have hl1 : ((dgL u).map pbyte).length = 16 := by rw [List.length_map, dgL_len]
  have hl2 : ((dgL v).map pbyte).length = 16 := by rw [List.length_map, dgL_len]
  have o1 := all_one_byte (dgL u)
  have o2 := all_one_byte (dgL v)
  have t1 : List.take 16 ((dgL u).map pbyte) = (dgL u).map pbyte := List.take_of_length_le (by omega)
  have t2 : List.take 16 ((dgL v).map pbyte) = (dgL v).map pbyte := List.take_of_length_le (by omega)
  have hhl := head_len u v
  have c0 := diff_c G u v (by have := hu.1; omega) (by have := hv.1; omega)
  have g1 := digest_l G hG u hu
  have g2 := digest_l G hG v hv
  have c1 := wdigs_r G [dgL u, dgL v] (by simp [dgL_len]) (by omega) (by simp)
  have c2 := wint_c G (diffL u v).length (by omega) (by omega)
  have h9 := intB_len9 (n := ((diffL u v).length : Int)) ⟨by omega, by omega⟩
  obtain ⟨q1, q2, q3, q4⟩ := dig_cells (dgL_len u) (dgL_len v)
  simp only [List.replicate_succ, List.replicate_zero] at q3
  have hm : msgM u v = preM u v (diffL u v).length := rfl
  have hml : (msgM u v).length ≤ 1100 := hm ▸ hpl _
  have s1 := hsign_c G hG seed h n (msgM u v) hs hn (by omega)
  have s2 := signF_len seed h n (msgM u v) hn
  unfold encF
  rw [hm] at *
  simp only [List.map_cons, List.map_nil] at c1
  generalize encL id [dgL u, dgL v] = hd at *
  generalize preM u v = P at *
  generalize dgL u = du at *
  generalize dgL v = dv at *
  generalize diffL u v = L at *
  generalize signF seed h n (P L.length) = sg at *
  obtain ⟨sg, er⟩ := sg
  simp only at s1 s2
  (refine PCalls_f Tryd.func8 rfl Tryd.ntmps8 Tryd.results8 (by simp) fun fin hfin => ?_; have hnm : True := trivial; simp only [ev, simprocAttr])
  repeat' (first
    | (with_reducible apply W_seq_k; intro nx hnx)
    | (with_reducible first | refine wr 3758157599 ?_ | refine wd (id := 6) 3758157599 4 (.op 0 true (.op 1 true (.op 2 true (.op 4 true (.op 5 true (.op 7 true (.op 8 true (.op 3 true (.op 6 true (.op 9 false (.op 10 false (.op 11 false (.op 12 true (.done)))))))))))))) (by kernel_rfl) ?_)
    | (with_reducible refine WL_born (by simp) rfl (by simp) ?_; simp only [elemsOf, nl, bir, simprocAttr])
    | (with_reducible refine WL_bornH (by simp) (by simp) ?_ ?_ ?_; (· simp [frz, frz1, hnm]); (· simp [frz1, hnm, PV.one, Value.oneCell']); simp only [elemsOf, nl, bir, simprocAttr])
    | ((with_reducible first | (apply WL_op; intro nx hnx) | refine Ev_out ?_ | refine wc ?_ | (apply popsD_op; intro nx hnx) | (refine popsD_alt ?_ ?_; intro nx hnx) | (refine pf hnm fun nm hnm => ?_; try simp only [fmb] at hnm) | (refine pborn_im ?_; simp only [elemsOf, nl, bir, simprocAttr]) | (refine pmaybe_k ?_; intro bn hbn)); try (simp (maxSteps := 2000000) (disch := omega) only [ev, ↓evp, PV.cells, PV.one, PV.mem?, Value.cells, simprocAttr, hnm, Tryd.tf0, Tryd.tf1, Tryd.tf2, Tryd.tf3, Tryd.tf4, Tryd.tf5, Tryd.tf9, Tryd.tf24, Tryd.tf27, Tryd.tf28, Tryd.tf32, Tryd.tf37, Tryd.tf48, Tryd.tf52, Tryd.tf58, Tryd.tf61, Tryd.tf87, Tryd.call15, Tryd.call16, Tryd.call21, Tryd.call22, Tryd.call23, Tryd.call24, Tryd.call25, Tryd.call26, q1, q2, q3, q4, hl1, hl2, o1, o2, t1, t2, flat_pb]))
    | ((with_reducible first | apply W_block | apply W_scope | apply WL_nil | apply W_label | apply W_skip | apply W_exit | apply W_ret | apply popsD_done | exact popsD_stop) <;> try simp only [kks, simprocAttr])
    | (with_reducible apply pg <;> (intro hc; (try simp only [hcb, simprocAttr, ne_eq, forall_const] at hc); first | (exfalso; omega) | exact absurd trivial hc | skip))
    | (with_reducible apply hnx; clear hnx nx)
    | (with_reducible refine And.intro (by omega) ?_)
    | (with_reducible refine And.intro ?_ ?_)
    | (with_reducible refine pe (c0) ?_)
    | (with_reducible refine pe (g1) ?_)
    | (with_reducible refine pe (g2) ?_)
    | (with_reducible refine pe (c2) ?_)
    | ((with_reducible refine pcall_k c1 ?_; rintro _ _ ⟨N0, rfl, rfl⟩ -; refine Ev_in ?_))
    | (clear hnx nx; with_reducible apply hnx; clear hnx nx)
    | (clear hnx nx; clear hnx nx; with_reducible apply hnx; clear hnx nx))
  rename_i kN hkN
  generalize nm = N1 at *
  have hne : (N1 = kN) = False ∧ (kN = N1) = False := hnm
  have hw : Wx G ([] : List Int) ⟨fr 68 [(11, .row N1 1 (P 0).length), (31, pn 0), (30, pint .i64 L.length), (29, .list 3 (L.map Chg.pv)), (8, pnil), (4, .ptr kN 0), (1, pint .i64 n)], [(N1, ⟨5, true, 1, (P 0).map pbyte⟩), (kN, ⟨32, false, 0, [pstr seed, pint .i64 h]⟩)]⟩ ⟨fr 68 [(11, pl (P 0)), (31, pn 0), (30, pint .i64 L.length), (29, .list 3 (L.map Chg.pv)), (8, pnil), (4, .ptr kN 0), (1, pint .i64 n)], [(kN, ⟨32, false, 0, [pstr seed, pint .i64 h]⟩)]⟩ := by
    have hw := Wx_bornH (G := G) (I := []) (N := 68) (d := 11) (L := [(31, pn 0), (30, pint .i64 L.length), (29, .list 3 (L.map Chg.pv)), (8, pnil), (4, .ptr kN 0), (1, pint .i64 n)]) (n := N1) (e := 5) (es := 1) (len := (P 0).length) (cells := (P 0).map pbyte) (H := [(kN, ⟨32, false, 0, [pstr seed, pint .i64 h]⟩)]) (by simp) (by simp) (by simp [frz, frz1, hne]) (by simp [frz1, hne, PV.one, Value.oneCell'])
    rwa [elemsOf, if_pos rfl, take_pb] at hw
  refine W_x (Wx.trans (Wx.of_wk (τ := ⟨fr 68 [(11, .row N1 1 (P 0).length), (31, pn 0), (30, pint .i64 L.length), (29, .list 3 (L.map Chg.pv)), (8, pnil), (4, .ptr kN 0), (1, pint .i64 n)], [(N1, ⟨5, true, 1, (P 0).map pbyte⟩), (kN, ⟨32, false, 0, [pstr seed, pint .i64 h]⟩)]⟩) (by
    rw [hp0, List.length_append, List.map_append]
    refine Wk_fr (by simp only [wkb, simprocAttr, pn]) ?_
    exact Sub_refl (by simp [names, hne]))) hw) ?_
  clear hw hnm hne
  have hnm : True := trivial
  refine W_loop_k (fun z τ => ∃ i : Nat, i ≤ L.length ∧ z = L.length - i ∧ τ = ⟨fr 68 [(11, pl (P i)), (31, pn i), (30, pint .i64 L.length), (29, .list 3 (L.map Chg.pv)), (8, pnil), (4, .ptr kN 0), (1, pint .i64 n)], [(kN, ⟨32, false, 0, [pstr seed, pint .i64 h]⟩)]⟩) L.length
    ⟨fr 68 [(11, pl (P 0)), (31, pn 0), (30, pint .i64 L.length), (29, .list 3 (L.map Chg.pv)), (8, pnil), (4, .ptr kN 0), (1, pint .i64 n)], [(kN, ⟨32, false, 0, [pstr seed, pint .i64 h]⟩)]⟩ (by exact Wk_fr (by simp only [wkb, simprocAttr, pn]) ⟨by simp, by simp [names]⟩) ⟨0, by omega, by omega, rfl⟩ ?_
  rintro z τ ⟨i, hi, rfl, rfl⟩ lp hlp
  have hpi := hpl i
  have hpi2 := hpl (i + 1)
  by_cases hil : i < L.length
  · have hget : L[i]? = some L[i] := List.getElem?_eq_getElem hil
    have hc := d3 L[i] (List.getElem_mem hil)
    have hstep := hst i hil
    obtain ⟨c, hcc⟩ : ∃ c, c = L[i] := ⟨_, rfl⟩
    rw [← hcc] at hget hc hstep
    obtain ⟨e1, e2, e3, e4⟩ := hc
    have e5 := enc5 e4 (by omega)
    have k1 := wint_c G c.at_ (by omega) (by omega)
    have k2 := wint_c G c.drop (by omega) (by omega)
    have k3 := wstrs_c G c.add (fun s hs => by have := e4 s hs; omega) (by omega) (by omega)
    have l1 := intB_len9 (n := c.at_) ⟨by omega, by omega⟩
    have l2 := intB_len9 (n := c.drop) ⟨by omega, by omega⟩
    have hch : chB c = intB c.at_ ++ (intB c.drop ++ encL bytesB c.add) := rfl
    rw [hch] at hstep
    generalize intB c.at_ = X at *
    generalize intB c.drop = Y at *
    generalize encL bytesB c.add = Z at *
    have k4 := concat_c G [P i, X, Y, Z] (by simp) (by simp [lenS]; omega)
    have hfl : [P i, X, Y, Z].flatten = P (i + 1) := by rw [hstep]; simp
    rw [hfl] at k4
    simp only [List.map_cons, List.map_nil] at k4
    obtain ⟨p2, hp2⟩ : ∃ p2, p2 = P (i + 1) := ⟨_, rfl⟩
    rw [← hp2] at k4
    obtain ⟨p, hp⟩ : ∃ p, p = P i := ⟨_, rfl⟩
    rw [← hp] at k4 ⊢
    repeat' (first
    | (with_reducible apply W_seq_k; intro nx hnx)
    | (with_reducible first | refine wr 3758157599 ?_ | refine wd (id := 6) 3758157599 4 (.op 0 true (.op 1 true (.op 2 true (.op 4 true (.op 5 true (.op 7 true (.op 8 true (.op 3 true (.op 6 true (.op 9 false (.op 10 false (.op 11 false (.op 12 true (.done)))))))))))))) (by kernel_rfl) ?_)
    | (with_reducible refine WL_born (by simp) rfl (by simp) ?_; simp only [elemsOf, nl, bir, simprocAttr])
    | (with_reducible refine WL_bornH (by simp) (by simp) ?_ ?_ ?_; (· simp [frz, frz1, hnm]); (· simp [frz1, hnm, PV.one, Value.oneCell']); simp only [elemsOf, nl, bir, simprocAttr])
    | ((with_reducible first | (apply WL_op; intro nx hnx) | refine Ev_out ?_ | refine wc ?_ | (apply popsD_op; intro nx hnx) | (refine popsD_alt ?_ ?_; intro nx hnx) | (refine pf hnm fun nm hnm => ?_; try simp only [fmb] at hnm) | (refine pborn_im ?_; simp only [elemsOf, nl, bir, simprocAttr]) | (refine pmaybe_k ?_; intro bn hbn)); try (simp (maxSteps := 2000000) (disch := omega) only [ev, ↓evp, PV.cells, PV.one, PV.mem?, Value.cells, simprocAttr, hnm, Tryd.tf0, Tryd.tf1, Tryd.tf2, Tryd.tf3, Tryd.tf4, Tryd.tf5, Tryd.tf9, Tryd.tf24, Tryd.tf27, Tryd.tf28, Tryd.tf32, Tryd.tf37, Tryd.tf48, Tryd.tf52, Tryd.tf58, Tryd.tf61, Tryd.tf87, Tryd.call15, Tryd.call16, Tryd.call21, Tryd.call22, Tryd.call23, Tryd.call24, Tryd.call25, Tryd.call26, hget, ← hcc, flat_pb]))
    | ((with_reducible first | apply W_block | apply W_scope | apply WL_nil | apply W_label | apply W_skip | apply W_exit | apply W_ret | apply popsD_done | exact popsD_stop) <;> try simp only [kks, simprocAttr])
    | (with_reducible apply pg <;> (intro hc; (try simp only [hcb, simprocAttr, ne_eq, forall_const] at hc); first | (exfalso; omega) | exact absurd trivial hc | skip))
    | (with_reducible apply hnx; clear hnx nx)
    | (with_reducible refine And.intro (by omega) ?_)
    | (with_reducible refine And.intro ?_ ?_)
    | (with_reducible refine pe (k1) ?_)
    | (with_reducible refine pe (k2) ?_)
    | (with_reducible refine pe (k3) ?_)
    | (with_reducible refine pe (k4) ?_)
    | (clear hnx nx; with_reducible apply hnx; clear hnx nx)
    | (clear hnx nx; clear hnx nx; with_reducible apply hnx; clear hnx nx))
    all_goals first
      | exact absurd trivial hc
      | (exfalso
         omega)
      | skip
    skip
    refine hlp _ (L.length - (i + 1)) ⟨fr 68 [(11, pl p2), (31, pn (i + 1)), (30, pint .i64 L.length), (29, .list 3 (L.map Chg.pv)), (8, pnil), (4, .ptr kN 0), (1, pint .i64 n)], [(kN, ⟨32, false, 0, [pstr seed, pint .i64 h]⟩)]⟩ (by omega) ?_ ⟨i + 1, by omega, rfl, by rw [hp2]⟩
    refine Wk_fr (by simp only [wkb, simprocAttr, pn]) ?_
    exact ⟨fun x hx => List.mem_cons_of_mem _ hx, by simp [names]⟩
  · have hi2 : i = L.length := by omega
    subst hi2
    have a1 := isByte_pb (P L.length)
    have a2 := unb_pb (P L.length)
    have k1 := wbytes_r G (P L.length) (by omega)
    have k2 := wbytes_c G sg (by omega)
    have hbl := bytesB_len (P L.length) (by omega)
    have hbl2 := bytesB_len sg (by omega)
    generalize P L.length = p at *
    by_cases her : er = 0
    · subst her
      repeat' (first
    | (with_reducible apply W_seq_k; intro nx hnx)
    | (with_reducible first | refine wr 3758157599 ?_ | refine wd (id := 6) 3758157599 4 (.op 0 true (.op 1 true (.op 2 true (.op 4 true (.op 5 true (.op 7 true (.op 8 true (.op 3 true (.op 6 true (.op 9 false (.op 10 false (.op 11 false (.op 12 true (.done)))))))))))))) (by kernel_rfl) ?_)
    | (with_reducible refine WL_born (by simp) rfl (by simp) ?_; simp only [elemsOf, nl, bir, simprocAttr])
    | (with_reducible refine WL_bornH (by simp) (by simp) ?_ ?_ ?_; (· simp [frz, frz1, hnm]); (· simp [frz1, hnm, PV.one, Value.oneCell']); simp only [elemsOf, nl, bir, simprocAttr])
    | ((with_reducible first | (apply WL_op; intro nx hnx) | refine Ev_out ?_ | refine wc ?_ | (apply popsD_op; intro nx hnx) | (refine popsD_alt ?_ ?_; intro nx hnx) | (refine pf hnm fun nm hnm => ?_; try simp only [fmb] at hnm) | (refine pborn_im ?_; simp only [elemsOf, nl, bir, simprocAttr]) | (refine pmaybe_k ?_; intro bn hbn)); try (simp (maxSteps := 2000000) (disch := omega) only [ev, ↓evp, PV.cells, PV.one, PV.mem?, Value.cells, simprocAttr, hnm, Tryd.tf0, Tryd.tf1, Tryd.tf2, Tryd.tf3, Tryd.tf4, Tryd.tf5, Tryd.tf9, Tryd.tf24, Tryd.tf27, Tryd.tf28, Tryd.tf32, Tryd.tf37, Tryd.tf48, Tryd.tf52, Tryd.tf58, Tryd.tf61, Tryd.tf87, Tryd.call15, Tryd.call16, Tryd.call21, Tryd.call22, Tryd.call23, Tryd.call24, Tryd.call25, Tryd.call26, a1, a2, flat_pb]))
    | ((with_reducible first | apply W_block | apply W_scope | apply WL_nil | apply W_label | apply W_skip | apply W_exit | apply W_ret | apply popsD_done | exact popsD_stop) <;> try simp only [kks, simprocAttr])
    | (with_reducible apply pg <;> (intro hc; (try simp only [hcb, simprocAttr, ne_eq, forall_const] at hc); first | (exfalso; omega) | exact absurd trivial hc | skip))
    | (with_reducible apply hnx; clear hnx nx)
    | (with_reducible refine And.intro (by omega) ?_)
    | (with_reducible refine And.intro ?_ ?_)
    | (with_reducible refine pe (s1) ?_)
    | (with_reducible refine pe (k2) ?_)
    | ((with_reducible refine pcall_k k1 ?_; rintro _ _ ⟨N0, rfl, rfl⟩ -; refine Ev_in ?_))
    | (clear hnx nx; with_reducible apply hnx; clear hnx nx)
    | (clear hnx nx; clear hnx nx; with_reducible apply hnx; clear hnx nx))
      all_goals first
        | exact absurd trivial hc
        | (exfalso
           omega)
        | exact (by kernel_rfl : Tryd.prog.underlying 5 = some (.int .u8))
        | skip
      skip
      refine hfin _ _ (Fin_ret2 rfl rfl (Sub_sw nm) ?_)
      simp only [cob, simprocAttr]
      first | exact .inl ⟨rfl, nm, by rw [List.length_append], by rw [List.map_append]⟩ | exact .inl ⟨rfl, nm, by rw [if_pos rfl, List.length_append], by rw [if_pos rfl, List.map_append]⟩
    · repeat' (first
    | (with_reducible apply W_seq_k; intro nx hnx)
    | (with_reducible first | refine wr 3758157599 ?_ | refine wd (id := 6) 3758157599 4 (.op 0 true (.op 1 true (.op 2 true (.op 4 true (.op 5 true (.op 7 true (.op 8 true (.op 3 true (.op 6 true (.op 9 false (.op 10 false (.op 11 false (.op 12 true (.done)))))))))))))) (by kernel_rfl) ?_)
    | (with_reducible refine WL_born (by simp) rfl (by simp) ?_; simp only [elemsOf, nl, bir, simprocAttr])
    | (with_reducible refine WL_bornH (by simp) (by simp) ?_ ?_ ?_; (· simp [frz, frz1, hnm]); (· simp [frz1, hnm, PV.one, Value.oneCell']); simp only [elemsOf, nl, bir, simprocAttr])
    | ((with_reducible first | (apply WL_op; intro nx hnx) | refine Ev_out ?_ | refine wc ?_ | (apply popsD_op; intro nx hnx) | (refine popsD_alt ?_ ?_; intro nx hnx) | (refine pf hnm fun nm hnm => ?_; try simp only [fmb] at hnm) | (refine pborn_im ?_; simp only [elemsOf, nl, bir, simprocAttr]) | (refine pmaybe_k ?_; intro bn hbn)); try (simp (maxSteps := 2000000) (disch := omega) only [ev, ↓evp, PV.cells, PV.one, PV.mem?, Value.cells, simprocAttr, hnm, Tryd.tf0, Tryd.tf1, Tryd.tf2, Tryd.tf3, Tryd.tf4, Tryd.tf5, Tryd.tf9, Tryd.tf24, Tryd.tf27, Tryd.tf28, Tryd.tf32, Tryd.tf37, Tryd.tf48, Tryd.tf52, Tryd.tf58, Tryd.tf61, Tryd.tf87, Tryd.call15, Tryd.call16, Tryd.call21, Tryd.call22, Tryd.call23, Tryd.call24, Tryd.call25, Tryd.call26, a1, a2, flat_pb]))
    | ((with_reducible first | apply W_block | apply W_scope | apply WL_nil | apply W_label | apply W_skip | apply W_exit | apply W_ret | apply popsD_done | exact popsD_stop) <;> try simp only [kks, simprocAttr])
    | (with_reducible apply pg <;> (intro hc; (try simp only [hcb, simprocAttr, ne_eq, forall_const] at hc); first | (exfalso; omega) | exact absurd trivial hc | skip))
    | (with_reducible apply hnx; clear hnx nx)
    | (with_reducible refine And.intro (by omega) ?_)
    | (with_reducible refine And.intro ?_ ?_)
    | (with_reducible refine pe (s1) ?_)
    | (clear hnx nx; with_reducible apply hnx; clear hnx nx)
    | (clear hnx nx; clear hnx nx; with_reducible apply hnx; clear hnx nx))
      all_goals first
        | exact absurd trivial hc
        | (exfalso
           omega)
        | exact (by kernel_rfl : Tryd.prog.underlying 5 = some (.int .u8))
        | skip
      skip
      refine hfin _ _ (Fin_ret2 rfl rfl (Sub_nil _) ?_)
      simp only [cob, simprocAttr]
      first | exact .inr ⟨by rw [if_neg her], by rw [if_neg her], rfl⟩ | exact .inr ⟨rfl, rfl, rfl⟩ | exact .inr ⟨rfl, by simp [her], rfl⟩
theorem encode_c (G : Globs) (hG : G 0 = .iptr (KS.map pw) 0) (seed : List UInt8) (h n : Int) (u v : List (List UInt8)) (hs : seed.length ≤ 4000) (hn : inR n) (hu : Small u) (hv : Small v) :
    PCalls Tryd.prog G 8 [keyP seed h, pint .i64 n, .list 1 (u.map pstr), .list 1 (v.map pstr)] [] (fun res H => res = .tuple [.list 1 ((encF seed h n u v).1.map pbyte), pint .i64 (encF seed h n u v).2] ∧ H = []) := EncR.frz (encode_r G hG seed h n u v hs hn hu hv)
end Go.PM

namespace Go.PM
open Go.Proofs
attribute [local irreducible] W PCalls pcall pcallI WL
/-- What stands at the head of the reference's loop. -/
def refJ (a b : List (List UInt8)) (k : Nat) (τ : PState) : Prop :=
  ∃ (i j k0 : Nat) (cl : List Chg) (cur : Option Chg) (O M A at_ drop : Int) (add : List (List UInt8)), i ≤ a.length ∧ j ≤ b.length ∧ k = (a.length - i) + (b.length - j) ∧ k ≤ k0 ∧ cl.length ≤ i + j ∧ 0 ≤ drop ∧ drop ≤ i ∧ add.length ≤ j ∧
    (O ≠ M ∧ O ≠ A ∧ M ≠ A) ∧ ((cur = none ∧ at_ = i ∧ drop = 0 ∧ add = []) ∨ (cur = some ⟨at_, drop, add⟩ ∧ 0 < drop + add.length)) ∧
    cl ++ run k0 i cur (a.drop i) (b.drop j) = diffL a b ∧
    τ = ⟨fr 120 [(0, PV.list 1 (a.map pstr)), (1, .list 1 (b.map pstr)), (5, tblL a b), (6, .row O 3 cl.length), (7, .ptr M 0), (8, pint .i64 i), (9, pint .i64 j)], [(O, ⟨52, true, 3, flatC cl⟩), (M, ⟨52, false, 0, [pint .i64 at_, pint .i64 drop, .row A 1 add.length]⟩), (A, ⟨9, true, 1, add.map pstr⟩)]⟩
theorem nodup3 {O M A : Int} {x y z : PObj} (h1 : O ≠ M) (h2 : O ≠ A) (h3 : M ≠ A) : (names [(O, x), (M, y), (A, z)]).Nodup := by
  simp only [names, List.map_cons, List.map_nil]
  simp [h1, h2, h3]
theorem rleaf_add {G : Globs} {a b : List (List UInt8)} {lp : PState → Prop} {k : Nat} (hlp : ∀ σ'' n', n' < k → Wxs G [] σ'' (refJ a b n') → lp σ'') {l : List (Nat × PV)} {R : Heap} {O M A : Int} {X : Int × PObj} {cA cM : List PV}
    (i j k0 : Nat) (cl : List Chg) (at_ drop : Int) (add : List (List UInt8)) (hi : i ≤ a.length) (hj : j ≤ b.length) (hlt : (a.length - i) + (b.length - j) < k) (hk : (a.length - i) + (b.length - j) ≤ k0) (hd0 : 0 ≤ drop) (hd1 : drop ≤ i) (hadd : add.length ≤ j) (hlen : cl.length ≤ i + j)
    (hpos : 0 < drop + add.length) (hrun : cl ++ run k0 i (some ⟨at_, drop, add⟩) (a.drop i) (b.drop j) = diffL a b) (hne : O ≠ M ∧ ¬ A = O ∧ ¬ A = M)
    (hfr : ∀ x ∈ [(0, PV.list 1 (a.map pstr)), (1, .list 1 (b.map pstr)), (5, tblL a b), (6, .row O 3 cl.length), (7, .ptr M 0), (8, pint .i64 i), (9, pint .i64 j)], (fr 120 l).getD x.1 .junk = x.2)
    (hcA : cA = add.map pstr) (hcM : cM = [pint .i64 at_, pint .i64 drop, .row A 1 add.length]) : lp ⟨fr 120 l, (A, ⟨9, true, 1, cA⟩) :: X :: (O, ⟨52, true, 3, flatC cl⟩) :: (M, ⟨52, false, 0, cM⟩) :: R⟩ := by
  subst hcA hcM
  refine hlp _ _ hlt (.of (.of_wk (Wk_fr hfr ⟨?_, nodup3 hne.1 (fun e => hne.2.1 e.symm) (fun e => hne.2.2 e.symm)⟩)) ⟨i, j, k0, cl, some ⟨at_, drop, add⟩, O, M, A, at_, drop, add, hi, hj, rfl, hk, hlen, hd0, hd1, hadd, ⟨hne.1, fun e => hne.2.1 e.symm, fun e => hne.2.2 e.symm⟩, .inr ⟨rfl, hpos⟩, hrun, rfl⟩)
  intro x hx
  simp only [List.mem_cons, List.not_mem_nil, or_false] at hx ⊢
  rcases hx with rfl | rfl | rfl
  · exact .inr (.inr (.inl rfl))
  · exact .inr (.inr (.inr (.inl rfl)))
  · exact .inl rfl
/-- the line is kept: what follows the closing of a change -/
theorem rleaf_new {G : Globs} {a b : List (List UInt8)} {lp : PState → Prop} {k : Nat} (hlp : ∀ σ'' n', n' < k → Wxs G [] σ'' (refJ a b n') → lp σ'') {O M : Int} (σ : PState)
    (i j k0 : Nat) (cl : List Chg) (hi : i ≤ a.length) (hj : j ≤ b.length) (hlt : (a.length - i) + (b.length - j) < k) (hk : (a.length - i) + (b.length - j) ≤ k0) (hlen : cl.length ≤ i + j)
    (hrun : cl ++ run k0 i none (a.drop i) (b.drop j) = diffL a b) (hne : O ≠ M)
    (hx : Wx G [] σ ⟨fr 120 [(0, PV.list 1 (a.map pstr)), (1, .list 1 (b.map pstr)), (5, tblL a b), (6, .row O 3 cl.length), (7, .ptr M 0), (8, pint .i64 i), (9, pint .i64 j)], [(O, ⟨52, true, 3, flatC cl⟩), (M, ⟨52, false, 0, [pint .i64 i, pint .i64 0, pnil]⟩)]⟩) : lp σ := by
  refine hlp _ _ hlt (.wx hx (Wxs.adopt_c M 2 9 1 (o := ⟨52, false, 0, [pint .i64 i, pint .i64 0, pnil]⟩) (by simp only [look, if_neg hne, if_true]) rfl fun A hA => ?_))
  simp only [names, List.map_cons, List.map_nil, List.mem_cons, List.not_mem_nil, or_false, not_or] at hA
  simp only [upd, if_neg hne, if_true]
  refine .of (.of_wk (Wk_fr (l' := [(0, PV.list 1 (a.map pstr)), (1, .list 1 (b.map pstr)), (5, tblL a b), (6, .row O 3 cl.length), (7, .ptr M 0), (8, pint .i64 i), (9, pint .i64 j)]) (H' := [(O, ⟨52, true, 3, flatC cl⟩), (M, ⟨52, false, 0, [pint .i64 i, pint .i64 0, .row A 1 ([] : List (List UInt8)).length]⟩), (A, ⟨9, true, 1, ([] : List (List UInt8)).map pstr⟩)]) (by simp only [List.forall_mem_cons, List.not_mem_nil, false_implies, implies_true, and_true, true_and, and_self, fr_getD_cons, fr_getD_nil, Nat.reduceEqDiff, Nat.reduceLT, ↓reduceIte, Int.natCast_add, Int.cast_ofNat_Int, Int.natCast_zero]) ⟨?_, nodup3 hne (fun e => hA.1 e.symm) (fun e => hA.2 e.symm)⟩)) ⟨i, j, k0, cl, none, O, M, A, i, 0, [], hi, hj, rfl, hk, hlen, by omega, by omega, by simp, ⟨hne, fun e => hA.1 e.symm, fun e => hA.2 e.symm⟩, .inl ⟨rfl, rfl, rfl, rfl⟩, hrun, rfl⟩
  intro x hx
  simp only [List.mem_cons, List.not_mem_nil, or_false] at hx
  rcases hx with rfl | rfl | rfl
  · simp
  · simp
  · simp
theorem rleaf_keep {G : Globs} {a b : List (List UInt8)} {lp : PState → Prop} {k : Nat} (hlp : ∀ σ'' n', n' < k → Wxs G [] σ'' (refJ a b n') → lp σ'') {l : List (Nat × PV)} {R : Heap} {O M A : Int} {X : Int × PObj} {cM cO : List PV}
    (i j k0 : Nat) (cl : List Chg) (at_ drop : Int) (add : List (List UInt8)) (hi : i ≤ a.length) (hj : j ≤ b.length) (hlt : (a.length - i) + (b.length - j) < k) (hk : (a.length - i) + (b.length - j) ≤ k0) (hlen : cl.length + 1 ≤ i + j)
    (hrun : (cl ++ [⟨at_, drop, add⟩]) ++ run k0 i none (a.drop i) (b.drop j) = diffL a b) (hne : ¬ O = M ∧ ¬ O = A ∧ M ≠ A)
    (hfr : ∀ x ∈ [(0, PV.list 1 (a.map pstr)), (1, .list 1 (b.map pstr)), (5, tblL a b), (6, .row O 3 (cl.length + 1)), (7, .ptr M 0), (8, pint .i64 i), (9, pint .i64 j)], (fr 120 l).getD x.1 .junk = x.2)
    (hcO : cO = flatC cl ++ [pint .i64 at_, pint .i64 drop, .row A 1 add.length]) (hcM : cM = [pint .i64 i, pint .i64 0, pnil]) : lp ⟨fr 120 l, (O, ⟨52, true, 3, cO⟩) :: X :: (M, ⟨52, false, 0, cM⟩) :: (A, ⟨9, true, 1, add.map pstr⟩) :: R⟩ := by
  subst hcO hcM
  have h := Wx_close (G := G) (N := 120) (L := [(0, PV.list 1 (a.map pstr)), (1, .list 1 (b.map pstr)), (5, tblL a b), (6, .row O 3 (cl.length + 1)), (7, .ptr M 0), (8, pint .i64 i), (9, pint .i64 j)]) (t1 := 52) (t2 := 9) hne.2.1 cl at_ drop add (rest := [(M, ⟨52, false, 0, [pint .i64 i, pint .i64 0, pnil]⟩)]) (by simp [stab, PV.one, Value.oneCell']) (by simp [frz, frz1, hne.2.1, hne.2.2])
  refine rleaf_new hlp (O := O) (M := M) _ i j k0 (cl ++ [⟨at_, drop, add⟩]) hi hj hlt hk (by simp only [List.length_append, List.length_cons, List.length_nil]; omega) hrun hne.1 ?_
  rw [List.length_append, List.length_cons, List.length_nil]
  refine (Wx.of_wk (Wk_fr hfr ⟨?_, nodup3 hne.2.1 hne.1 (fun e => hne.2.2 e.symm)⟩)).trans h
  intro x hx
  simp only [List.mem_cons, List.not_mem_nil, or_false] at hx ⊢
  rcases hx with rfl | rfl | rfl
  · exact .inl rfl
  · exact .inr (.inr (.inr (.inl rfl)))
  · exact .inr (.inr (.inl rfl))
set_option maxRecDepth 100000 in
set_option maxHeartbeats 8000000 in
theorem ref_round (G : Globs) (a b : List (List UInt8)) (ha : a.length ≤ 4000000) (hb : b.length ≤ 4000000) (i j k0 : Nat) (cl : List Chg) (cur : Option Chg) (O M A at_ drop : Int) (add : List (List UInt8)) (hi : i ≤ a.length) (hj : j ≤ b.length) (hk : (a.length - i) + (b.length - j) ≤ k0)
    (hlen : cl.length ≤ i + j) (hd0 : 0 ≤ drop) (hd1 : drop ≤ i) (hadd : add.length ≤ j) (hOM : O ≠ M) (hOA : O ≠ A) (hMA : M ≠ A) (hcur : (cur = none ∧ at_ = i ∧ drop = 0 ∧ add = []) ∨ (cur = some ⟨at_, drop, add⟩ ∧ 0 < drop + add.length))
    (hrun : cl ++ run k0 i cur (a.drop i) (b.drop j) = diffL a b) (lp : PState → Prop) (hlp : ∀ σ'' n', n' < (a.length - i) + (b.length - j) → Wxs G [] σ'' (refJ a b n') → lp σ'') (K : Exit → PState → Prop)
    (hK : ∀ σ', cl ++ cur.toList = diffL a b → Wk σ' ⟨fr 120 [(6, .row O 3 cl.length), (7, .ptr M 0)], [(O, ⟨52, true, 3, flatC cl⟩), (M, ⟨52, false, 0, [pint .i64 at_, pint .i64 drop, .row A 1 add.length]⟩), (A, ⟨9, true, 1, add.map pstr⟩)]⟩ → K (.exit 0) σ') :
    W Tryd.prog G [] (nav (Tryd.f30.body.getD .skip) [1, 1, 1, 1, 1, 1, 0, 0, 0]) ⟨fr 120 [(0, PV.list 1 (a.map pstr)), (1, .list 1 (b.map pstr)), (5, tblL a b), (6, .row O 3 cl.length), (7, .ptr M 0), (8, pint .i64 i), (9, pint .i64 j)], [(O, ⟨52, true, 3, flatC cl⟩), (M, ⟨52, false, 0, [pint .i64 at_, pint .i64 drop, .row A 1 add.length]⟩), (A, ⟨9, true, 1, add.map pstr⟩)]⟩ (seqK lp K) := by
  simp only [Tryd.f30, Option.getD_some, nav]
  have hnm : True := trivial
  have hOM' : ¬ M = O := fun e => hOM e.symm
  have hOA' : ¬ A = O := fun e => hOA e.symm
  have hMA' : ¬ A = M := fun e => hMA e.symm
  have hget : cur.getD ⟨i, 0, []⟩ = ⟨at_, drop, add⟩ := by
    rcases hcur with ⟨rfl, rfl, rfl, rfl⟩ | ⟨rfl, _⟩ <;> rfl
  have hcl : 0 < drop + add.length → cur.toList = [⟨at_, drop, add⟩] := fun h => by
    rcases hcur with ⟨rfl, rfl, rfl, rfl⟩ | ⟨rfl, _⟩
    · simp at h
    · rfl
  have hcn : ¬ 0 < drop + add.length → cur.toList = [] := fun h => by
    rcases hcur with ⟨rfl, rfl, rfl, rfl⟩ | ⟨rfl, h2⟩
    · rfl
    · exact absurd h2 h
  repeat' (first
    | (with_reducible apply W_seq_k; intro nx hnx)
    | (with_reducible first | refine wr 4083 ?_ | refine wd (id := 9) 4083 1 (.op 0 true (.op 1 true (.op 2 true (.op 3 true (.op 4 true (.op 5 true (.op 6 true (.op 7 true (.op 8 true (.op 9 true (.done))))))))))) (by kernel_rfl) ?_ | refine wd (id := 18) 4083 1 (.op 0 true (.op 1 true (.op 2 true (.op 3 true (.op 4 true (.op 5 true (.op 6 true (.op 7 true (.op 8 true (.op 9 true (.op 10 true (.op 11 true (.op 12 true (.op 13 true (.op 14 true (.op 15 true (.op 16 true (.op 17 true (.done))))))))))))))))))) (by kernel_rfl) ?_ | refine wd (id := 22) 4083 3 (.op 0 true (.op 1 true (.op 2 true (.op 3 true (.op 4 true (.op 5 true (.op 6 true (.op 7 false (.op 8 true (.op 9 false (.done))))))))))) (by kernel_rfl) ?_)
    | ((with_reducible first | (apply WL_op; intro nx hnx) | refine Ev_out ?_ | refine wc ?_ | (apply popsD_op; intro nx hnx) | (refine popsD_alt ?_ ?_; intro nx hnx) | (refine pf hnm fun nm hnm => ?_; try simp only [fmb] at hnm) | (refine pm hnm fun nm hnm => ?_; try simp only [fmb] at hnm) | (refine pmaybe_k ?_; intro bn hbn)); try (simp (maxSteps := 2000000) (disch := omega) only [ev, ↓evp, PV.cells, PV.one, PV.mem?, Value.cells, simprocAttr, hnm, Tryd.tf0, Tryd.tf1, Tryd.tf2, Tryd.tf3, Tryd.tf4, Tryd.tf9, Tryd.tf22, Tryd.tf24, Tryd.tf48, Tryd.tf52, Tryd.tf84, Tryd.call54, tab_len, tab_getD, flatC_len, Nat.add_sub_cancel, hOM, hOM', hOA, hOA', hMA, hMA']))
    | ((with_reducible first | apply W_block | apply W_scope | apply WL_nil | apply W_label | apply W_skip | apply W_exit | apply W_ret | apply popsD_done | exact popsD_stop) <;> try simp only [kks, simprocAttr])
    | (with_reducible apply pg <;> (intro hc; (try simp only [hcb, simprocAttr, ne_eq, forall_const] at hc); first | (exfalso; omega) | exact absurd trivial hc | skip))
    | (with_reducible apply hnx; clear hnx nx)
    | (with_reducible refine And.intro (by omega) ?_)
    | (with_reducible refine And.intro ?_ ?_)
    | (clear hnx nx; with_reducible apply hnx; clear hnx nx)
    | (clear hnx nx; clear hnx nx; with_reducible apply hnx; clear hnx nx))
  all_goals first
    | (have hij : i = a.length ∧ j = b.length := by omega
       refine hK _ ?_ ?_
       · rw [List.drop_of_length_le (by omega), List.drop_of_length_le (by omega), run_end] at hrun
         exact hrun
       · exact Wk_fr (by simp only [List.forall_mem_cons, List.not_mem_nil, false_implies, implies_true, and_true, true_and, and_self, fr_getD_cons, fr_getD_nil, Nat.reduceEqDiff, Nat.reduceLT, ↓reduceIte, Int.natCast_add, Int.cast_ofNat_Int, Int.natCast_zero]) (Sub_refl (nodup3 hOM hOA hMA)))
    | (have hk1 : k0 = (k0 - 1) + 1 := by omega
       rw [hk1, step_keep (by omega) (by omega) (by assumption), hcl (by omega)] at hrun
       exact rleaf_keep hlp (i + 1) (j + 1) (k0 - 1) cl at_ drop add (by omega) (by omega) (by omega) (by omega) (by omega) (by rw [List.append_assoc]; exact hrun) ⟨by simp only [hnm, not_false_eq_true], by simp only [hnm, not_false_eq_true], hMA⟩ (by simp only [List.forall_mem_cons, List.not_mem_nil, false_implies, implies_true, and_true, true_and, and_self, fr_getD_cons, fr_getD_nil, Nat.reduceEqDiff, Nat.reduceLT, ↓reduceIte, Int.natCast_add, Int.cast_ofNat_Int, Int.natCast_zero]) rfl rfl)
    | (have hk1 : k0 = (k0 - 1) + 1 := by omega
       rw [hk1, step_keep (by omega) (by omega) (by assumption), hcn (by omega), List.nil_append] at hrun
       refine rleaf_new hlp (O := O) (M := M) _ (i + 1) (j + 1) (k0 - 1) cl (by omega) (by omega) (by omega) (by omega) (by omega) hrun hOM (.of_wk (Wk_fr (by simp only [List.forall_mem_cons, List.not_mem_nil, false_implies, implies_true, and_true, true_and, and_self, fr_getD_cons, fr_getD_nil, Nat.reduceEqDiff, Nat.reduceLT, ↓reduceIte, Int.natCast_add, Int.cast_ofNat_Int, Int.natCast_zero]) ⟨by simp, by simp only [names, List.map_cons, List.map_nil]; simp [hOM]⟩)))
    | (have hk1 : k0 = (k0 - 1) + 1 := by omega
       rw [hk1, step_drop (by omega) (by first | exact .inl (by omega) | exact .inr ⟨by omega, by assumption, by omega⟩), hget] at hrun
       refine hlp _ ((a.length - (i + 1)) + (b.length - j)) (by omega) (.of (.of_wk (Wk_fr (l' := [(0, PV.list 1 (a.map pstr)), (1, .list 1 (b.map pstr)), (5, tblL a b), (6, .row O 3 cl.length), (7, .ptr M 0), (8, pint .i64 ((i + 1 : Nat) : Int)), (9, pint .i64 j)]) (by simp only [List.forall_mem_cons, List.not_mem_nil, false_implies, implies_true, and_true, true_and, and_self, fr_getD_cons, fr_getD_nil, Nat.reduceEqDiff, Nat.reduceLT, ↓reduceIte, Int.natCast_add, Int.cast_ofNat_Int, Int.natCast_zero]) (Sub_refl (nodup3 hOM hOA hMA)))) ⟨i + 1, j, k0 - 1, cl, _, O, M, A, at_, drop + 1, add, by omega, by omega, rfl, by omega, by omega, by omega, by omega, by omega, ⟨hOM, hOA, hMA⟩, .inr ⟨rfl, by omega⟩, hrun, rfl⟩))
    | (have hk1 : k0 = (k0 - 1) + 1 := by omega
       rw [hk1, step_add (by omega) (by first | exact .inl (by omega) | exact .inr ⟨by omega, by assumption, by omega⟩), hget] at hrun
       exact rleaf_add hlp i (j + 1) (k0 - 1) cl at_ drop (add ++ [b[j]]) (by omega) (by omega) (by omega) (by omega) (by omega) (by omega) (by simp; omega) (by omega) (by simp; omega) hrun ⟨hOM, by simp only [hnm, not_false_eq_true], by simp only [hnm, not_false_eq_true]⟩ (by simp only [List.forall_mem_cons, List.not_mem_nil, false_implies, implies_true, and_true, true_and, and_self, fr_getD_cons, fr_getD_nil, Nat.reduceEqDiff, Nat.reduceLT, ↓reduceIte, Int.natCast_add, Int.cast_ofNat_Int, Int.natCast_zero]) (by simp) (by simp))
end Go.PM

namespace Go.PM
open Go.Proofs
attribute [local irreducible] W PCalls pcall pcallI WL
set_option maxRecDepth 100000 in
set_option maxHeartbeats 8000000 in
theorem rdiff_r (G : Globs) (a b : List (List UInt8)) (ha : a.length ≤ 4000000) (hb : b.length ≤ 4000000) :
    PCalls Tryd.prog G 30 [.list 1 (a.map pstr), .list 1 (b.map pstr)] [] (fun res H => ∃ (O : Int) (cl : List Chg), (cl = diffL a b ∧ res = .row O 3 cl.length ∧ H = [(O, ⟨52, true, 3, flatC cl⟩)]) ∨
      (∃ (A at_ drop : Int) (add : List (List UInt8)), O ≠ A ∧ cl ++ [⟨at_, drop, add⟩] = diffL a b ∧ res = .row O 3 (cl.length + 1) ∧
        H = [(O, ⟨52, true, 3, flatC cl ++ [pint .i64 at_, pint .i64 drop, .row A 1 add.length]⟩), (A, ⟨9, true, 1, add.map pstr⟩)])) := by
  (refine PCalls_f Tryd.func30 rfl Tryd.ntmps30 Tryd.results30 (by simp) fun fin hfin => ?_; have hnm : True := trivial; simp only [ev, simprocAttr])
  repeat' (first
    | (with_reducible apply W_seq_k; intro nx hnx)
    | (with_reducible first | refine wr 4083 ?_ | refine wd (id := 9) 4083 1 (.op 0 true (.op 1 true (.op 2 true (.op 3 true (.op 4 true (.op 5 true (.op 6 true (.op 7 true (.op 8 true (.op 9 true (.done))))))))))) (by kernel_rfl) ?_ | refine wd (id := 18) 4083 1 (.op 0 true (.op 1 true (.op 2 true (.op 3 true (.op 4 true (.op 5 true (.op 6 true (.op 7 true (.op 8 true (.op 9 true (.op 10 true (.op 11 true (.op 12 true (.op 13 true (.op 14 true (.op 15 true (.op 16 true (.op 17 true (.done))))))))))))))))))) (by kernel_rfl) ?_ | refine wd (id := 22) 4083 3 (.op 0 true (.op 1 true (.op 2 true (.op 3 true (.op 4 true (.op 5 true (.op 6 true (.op 7 false (.op 8 true (.op 9 false (.done))))))))))) (by kernel_rfl) ?_)
    | ((with_reducible first | (apply WL_op; intro nx hnx) | refine Ev_out ?_ | refine wc ?_ | (apply popsD_op; intro nx hnx) | (refine popsD_alt ?_ ?_; intro nx hnx) | (refine pf hnm fun nm hnm => ?_; try simp only [fmb] at hnm) | (refine pm hnm fun nm hnm => ?_; try simp only [fmb] at hnm) | (refine pmaybe_k ?_; intro bn hbn)); try (simp (maxSteps := 2000000) (disch := omega) only [ev, ↓evp, PV.cells, PV.one, PV.mem?, Value.cells, simprocAttr, hnm, Tryd.tf0, Tryd.tf1, Tryd.tf2, Tryd.tf3, Tryd.tf4, Tryd.tf9, Tryd.tf22, Tryd.tf24, Tryd.tf48, Tryd.tf52, Tryd.tf84, Tryd.call54]))
    | ((with_reducible first | apply W_block | apply W_scope | apply WL_nil | apply W_label | apply W_skip | apply W_exit | apply W_ret | apply popsD_done | exact popsD_stop) <;> try simp only [kks, simprocAttr])
    | (with_reducible apply pg <;> (intro hc; (try simp only [hcb, simprocAttr, ne_eq, forall_const] at hc); first | (exfalso; omega) | exact absurd trivial hc | skip))
    | (with_reducible apply hnx; clear hnx nx)
    | (with_reducible refine And.intro (by omega) ?_)
    | (with_reducible refine And.intro ?_ ?_)
    | (clear hnx nx; with_reducible apply hnx; clear hnx nx)
    | (clear hnx nx; clear hnx nx; with_reducible apply hnx; clear hnx nx))
  refine pcall_k (common_c G a b ha hb) ?_
  rintro _ _ ⟨rfl, rfl⟩ -
  (simp only [PState.put, fr_set, List.nil_append, List.append_nil]; try simp (maxSteps := 2000000) (disch := omega) only [ev, ↓evp, PV.cells, PV.one, PV.mem?, Value.cells, simprocAttr, hnm, Tryd.tf0, Tryd.tf1, Tryd.tf2, Tryd.tf3, Tryd.tf4, Tryd.tf9, Tryd.tf22, Tryd.tf24, Tryd.tf48, Tryd.tf52, Tryd.tf84, Tryd.call54])
  repeat' (first
    | (with_reducible apply W_seq_k; intro nx hnx)
    | (with_reducible first | refine wr 4083 ?_ | refine wd (id := 9) 4083 1 (.op 0 true (.op 1 true (.op 2 true (.op 3 true (.op 4 true (.op 5 true (.op 6 true (.op 7 true (.op 8 true (.op 9 true (.done))))))))))) (by kernel_rfl) ?_ | refine wd (id := 18) 4083 1 (.op 0 true (.op 1 true (.op 2 true (.op 3 true (.op 4 true (.op 5 true (.op 6 true (.op 7 true (.op 8 true (.op 9 true (.op 10 true (.op 11 true (.op 12 true (.op 13 true (.op 14 true (.op 15 true (.op 16 true (.op 17 true (.done))))))))))))))))))) (by kernel_rfl) ?_ | refine wd (id := 22) 4083 3 (.op 0 true (.op 1 true (.op 2 true (.op 3 true (.op 4 true (.op 5 true (.op 6 true (.op 7 false (.op 8 true (.op 9 false (.done))))))))))) (by kernel_rfl) ?_)
    | ((with_reducible first | (apply WL_op; intro nx hnx) | refine Ev_out ?_ | refine wc ?_ | (apply popsD_op; intro nx hnx) | (refine popsD_alt ?_ ?_; intro nx hnx) | (refine pf hnm fun nm hnm => ?_; try simp only [fmb] at hnm) | (refine pm hnm fun nm hnm => ?_; try simp only [fmb] at hnm) | (refine pmaybe_k ?_; intro bn hbn)); try (simp (maxSteps := 2000000) (disch := omega) only [ev, ↓evp, PV.cells, PV.one, PV.mem?, Value.cells, simprocAttr, hnm, Tryd.tf0, Tryd.tf1, Tryd.tf2, Tryd.tf3, Tryd.tf4, Tryd.tf9, Tryd.tf22, Tryd.tf24, Tryd.tf48, Tryd.tf52, Tryd.tf84, Tryd.call54]))
    | ((with_reducible first | apply W_block | apply W_scope | apply WL_nil | apply W_label | apply W_skip | apply W_exit | apply W_ret | apply popsD_done | exact popsD_stop) <;> try simp only [kks, simprocAttr])
    | (with_reducible apply pg <;> (intro hc; (try simp only [hcb, simprocAttr, ne_eq, forall_const] at hc); first | (exfalso; omega) | exact absurd trivial hc | skip))
    | (with_reducible apply hnx; clear hnx nx)
    | (with_reducible refine And.intro (by omega) ?_)
    | (with_reducible refine And.intro ?_ ?_)
    | (clear hnx nx; with_reducible apply hnx; clear hnx nx)
    | (clear hnx nx; clear hnx nx; with_reducible apply hnx; clear hnx nx))
  refine W_adopt_f 6 52 3 (by simp only [fr_getD_cons, Nat.reduceEqDiff, Nat.reduceLT, ↓reduceIte]) fun O hO => ?_
  obtain ⟨M, hMd⟩ : ∃ M : Int, M = nm := ⟨_, rfl⟩
  subst hMd
  have hOM : O ≠ M := by
    simp only [names, List.map_cons, List.map_nil, List.mem_cons, List.not_mem_nil, or_false] at hO
    exact hO
  refine W_x (τ := ⟨fr 120 [(0, PV.list 1 (a.map pstr)), (1, .list 1 (b.map pstr)), (5, tblL a b), (6, .row O 3 0), (7, .ptr M 0), (8, pint .i64 (0 : Nat)), (9, pint .i64 (0 : Nat))], [(O, ⟨52, true, 3, []⟩), (M, ⟨52, false, 0, [pint .i64 (0 : Nat), pint .i64 0, pnil]⟩)]⟩) (.of_wk (Wk_fr (by simp only [List.forall_mem_cons, List.not_mem_nil, false_implies, implies_true, and_true, true_and, and_self, fr_getD_cons, fr_getD_nil, Nat.reduceEqDiff, Nat.reduceLT, ↓reduceIte, Int.natCast_add, Int.cast_ofNat_Int, Int.natCast_zero]) ⟨by simp, by simp only [names, List.map_cons, List.map_nil]; simp [hOM]⟩)) ?_
  refine W_adopt_c M 2 9 1 (o := ⟨52, false, 0, [pint .i64 (0 : Nat), pint .i64 0, pnil]⟩) (by simp only [look, if_neg hOM, if_true]) rfl fun A hA => ?_
  simp only [names, List.map_cons, List.map_nil, List.mem_cons, List.not_mem_nil, or_false, not_or] at hA
  simp only [upd, if_neg hOM, if_true]
  refine W_loop_xs (refJ a b) (a.length + b.length)
    ⟨fr 120 [(0, PV.list 1 (a.map pstr)), (1, .list 1 (b.map pstr)), (5, tblL a b), (6, .row O 3 ([] : List Chg).length), (7, .ptr M 0), (8, pint .i64 (0 : Nat)), (9, pint .i64 (0 : Nat))], [(O, ⟨52, true, 3, flatC []⟩), (M, ⟨52, false, 0, [pint .i64 (0 : Nat), pint .i64 0, .row A 1 ([] : List (List UInt8)).length]⟩), (A, ⟨9, true, 1, ([] : List (List UInt8)).map pstr⟩)]⟩
    (.of_wk (Wk_fr (by simp only [List.forall_mem_cons, List.not_mem_nil, false_implies, implies_true, and_true, true_and, and_self, fr_getD_cons, fr_getD_nil, Nat.reduceEqDiff, Nat.reduceLT, ↓reduceIte, Int.natCast_add, Int.cast_ofNat_Int, Int.natCast_zero, List.length_nil]) ⟨by rw [flatC_nil]; simp, nodup3 hOM (fun e => hA.1 e.symm) (fun e => hA.2 e.symm)⟩))
    ⟨0, 0, a.length + b.length, [], none, O, M, A, (0 : Nat), 0, [], by omega, by omega, by omega, by omega, by simp, by omega, by omega, by simp, ⟨hOM, fun e => hA.1 e.symm, fun e => hA.2 e.symm⟩, .inl ⟨rfl, rfl, rfl, rfl⟩, rfl, rfl⟩ ?_
  clear hA hOM hO A O
  rintro k τ ⟨i, j, k0, cl, cur, O, M, A, at_, drop, add, hi, hj, rfl, hk, hlen, hd0, hd1, hadd, ⟨hOM, hOA, hMA⟩, hcur, hrun, rfl⟩ lp hlp
  refine ref_round G a b ha hb i j k0 cl cur O M A at_ drop add hi hj hk hlen hd0 hd1 hadd hOM hOA hMA hcur hrun lp hlp _ fun σ' hcl hwk => ?_
  simp only [blockK, seqK, ↓reduceIte]
  refine hnx _ (W_wk hwk ?_)
  clear hnx hlp
  have hOM' : ¬ M = O := fun e => hOM e.symm
  have hOA' : ¬ A = O := fun e => hOA e.symm
  have hMA' : ¬ A = M := fun e => hMA e.symm
  repeat' (first
    | (with_reducible apply W_seq_k; intro nx hnx)
    | (with_reducible first | refine wr 4083 ?_ | refine wd (id := 9) 4083 1 (.op 0 true (.op 1 true (.op 2 true (.op 3 true (.op 4 true (.op 5 true (.op 6 true (.op 7 true (.op 8 true (.op 9 true (.done))))))))))) (by kernel_rfl) ?_ | refine wd (id := 18) 4083 1 (.op 0 true (.op 1 true (.op 2 true (.op 3 true (.op 4 true (.op 5 true (.op 6 true (.op 7 true (.op 8 true (.op 9 true (.op 10 true (.op 11 true (.op 12 true (.op 13 true (.op 14 true (.op 15 true (.op 16 true (.op 17 true (.done))))))))))))))))))) (by kernel_rfl) ?_ | refine wd (id := 22) 4083 3 (.op 0 true (.op 1 true (.op 2 true (.op 3 true (.op 4 true (.op 5 true (.op 6 true (.op 7 false (.op 8 true (.op 9 false (.done))))))))))) (by kernel_rfl) ?_)
    | ((with_reducible first | (apply WL_op; intro nx hnx) | refine Ev_out ?_ | refine wc ?_ | (apply popsD_op; intro nx hnx) | (refine popsD_alt ?_ ?_; intro nx hnx) | (refine pf hnm fun nm hnm => ?_; try simp only [fmb] at hnm) | (refine pm hnm fun nm hnm => ?_; try simp only [fmb] at hnm) | (refine pmaybe_k ?_; intro bn hbn)); try (simp (maxSteps := 2000000) (disch := omega) only [ev, ↓evp, PV.cells, PV.one, PV.mem?, Value.cells, simprocAttr, hnm, Tryd.tf0, Tryd.tf1, Tryd.tf2, Tryd.tf3, Tryd.tf4, Tryd.tf9, Tryd.tf22, Tryd.tf24, Tryd.tf48, Tryd.tf52, Tryd.tf84, Tryd.call54, flatC_len, hOM, hOM', hOA, hOA', hMA, hMA']))
    | ((with_reducible first | apply W_block | apply W_scope | apply WL_nil | apply W_label | apply W_skip | apply W_exit | apply W_ret | apply popsD_done | exact popsD_stop) <;> try simp only [kks, simprocAttr])
    | (with_reducible apply pg <;> (intro hc; (try simp only [hcb, simprocAttr, ne_eq, forall_const] at hc); first | (exfalso; omega) | exact absurd trivial hc | skip))
    | (with_reducible apply hnx; clear hnx nx)
    | (with_reducible refine And.intro (by omega) ?_)
    | (with_reducible refine And.intro ?_ ?_)
    | (clear hnx nx; with_reducible apply hnx; clear hnx nx)
    | (clear hnx nx; clear hnx nx; with_reducible apply hnx; clear hnx nx))
  · refine hfin _ _ (Fin_ret1 rfl (H := [(nm, ⟨52, true, 3, flatC cl ++ [pint .i64 at_, pint .i64 drop, .row A 1 add.length]⟩), (A, ⟨9, true, 1, add.map pstr⟩)]) ⟨by simp, by simp only [names, List.map_cons, List.map_nil]; simp [hnm]⟩ ?_)
    simp only [fr_getD_cons, fr_getD_nil, Nat.reduceEqDiff, Nat.reduceLT, ↓reduceIte]
    rcases hcur with ⟨rfl, rfl, rfl, rfl⟩ | ⟨rfl, _⟩
    · simp at hc
    · exact ⟨nm, cl, .inr ⟨A, at_, drop, add, by simp only [ne_eq, hnm, not_false_eq_true], hcl, rfl, rfl⟩⟩
  · refine hfin _ _ (Fin_ret1 rfl (H := [(O, ⟨52, true, 3, flatC cl⟩)]) ⟨by simp, by simp [names]⟩ ?_)
    simp only [fr_getD_cons, fr_getD_nil, Nat.reduceEqDiff, Nat.reduceLT, ↓reduceIte]
    rcases hcur with ⟨rfl, rfl, rfl, rfl⟩ | ⟨rfl, h⟩
    · exact ⟨O, cl, .inl ⟨by simpa using hcl, rfl, rfl⟩⟩
    · exact absurd h hc
theorem rdiff_c (G : Globs) (a b : List (List UInt8)) (ha : a.length ≤ 4000000) (hb : b.length ≤ 4000000) :
    PCalls Tryd.prog G 30 [.list 1 (a.map pstr), .list 1 (b.map pstr)] [] (fun res H => res = .list 3 ((diffL a b).map Chg.pv) ∧ H = []) := by
  refine (rdiff_r G a b ha hb).px fun res H hR => ?_
  obtain ⟨O, cl, ⟨rfl, rfl, rfl⟩ | ⟨A, at_, drop, add, hOA, hcl, rfl, rfl⟩⟩ := hR
  · exact ⟨_, _, Px_chg _, rfl, rfl⟩
  · have h1 := Px_close (G := G) hOA (t1 := 52) (t2 := 9) (cl.length + 1) cl at_ drop add
    have h2 := Px_chg (G := G) (O := O) (t1 := 52) (cl ++ [⟨at_, drop, add⟩])
    rw [List.length_append, List.length_cons, List.length_nil] at h2
    rw [hcl] at h1 h2
    exact ⟨_, _, h1.trans h2, rfl, rfl⟩
end Go.PM

namespace Go.PM
open Go.Proofs
attribute [local irreducible] W PCalls pcall pcallI WL
/-- The file of a message. -/
def filF (seed : List UInt8) (h n : Int) (m : List UInt8) : List UInt8 × Int :=
  if (signF seed h n m).2 = 0 then (bytesB m ++ bytesB (signF seed h n m).1, 0) else ([], (signF seed h n m).2)
theorem encF_fil (seed : List UInt8) (h n : Int) (u v : List (List UInt8)) : encF seed h n u v = filF seed h n (msgM u v) := rfl
theorem msg_len {u v : List (List UInt8)} (hu : Small u) (hv : Small v) : (msgM u v).length ≤ 1100 := preM_len hu hv _
set_option maxRecDepth 100000 in
set_option maxHeartbeats 8000000 in
theorem file_r (G : Globs) (hG : G 1 = .iptr (KS.map pw) 0) (seed : List UInt8) (h n : Int) (m : List UInt8) (hs : seed.length ≤ 4000) (hn : inR n) (hm : m.length ≤ 4000) :
    PCalls Tryd.prog G 27 [pstr seed, pint .i64 h, pint .i64 n, pstr m] [] (EncR (filF seed h n m)) := by
  have s1 := rsign_c G hG seed h n m hs hn hm
  have s2 := signF_len seed h n m hn
  unfold filF
  generalize signF seed h n m = sg at *
  obtain ⟨sg, er⟩ := sg
  simp only at s1 s2
  have k1 := rbytes_r G m (by omega)
  have k2 := rbytes_c G sg (by omega)
  have hbl := bytesB_len m (by omega)
  have hbl2 := bytesB_len sg (by omega)
  (refine PCalls_f Tryd.func27 rfl Tryd.ntmps27 Tryd.results27 (by simp) fun fin hfin => ?_; have hnm : True := trivial; simp only [ev, simprocAttr])
  by_cases her : er = 0
  · subst her
    repeat' (first
    | (with_reducible apply W_seq_k; intro nx hnx)
    | (with_reducible first | refine wr 3855 ?_)
    | ((with_reducible first | (apply WL_op; intro nx hnx) | refine Ev_out ?_ | refine wc ?_ | (refine pf hnm fun nm hnm => ?_; try simp only [fmb] at hnm) | (refine pm hnm fun nm hnm => ?_; try simp only [fmb] at hnm) | (refine pmaybe_k ?_; intro bn hbn)); try (simp (maxSteps := 2000000) (disch := omega) only [ev, ↓evp, PV.cells, PV.one, PV.mem?, Value.cells, simprocAttr, hnm, Tryd.tf0, Tryd.tf1, Tryd.tf3, Tryd.tf4, Tryd.tf5, Tryd.tf9, Tryd.tf27, Tryd.tf28, Tryd.tf61, Tryd.call48, Tryd.call49, flat_pb]))
    | ((with_reducible first | apply W_block | apply W_scope | apply WL_nil | apply W_label | apply W_skip | apply W_exit | apply W_ret) <;> try simp only [kks, simprocAttr])
    | (with_reducible apply pg <;> (intro hc; (try simp only [hcb, simprocAttr, ne_eq, forall_const] at hc); first | (exfalso; omega) | exact absurd trivial hc | skip))
    | (with_reducible apply hnx; clear hnx nx)
    | (with_reducible refine And.intro (by omega) ?_)
    | (with_reducible refine And.intro ?_ ?_)
    | (with_reducible refine pe (s1) ?_)
    | (with_reducible refine pe (k2) ?_)
    | ((with_reducible refine pcall_k k1 ?_; rintro _ _ ⟨N0, rfl, rfl⟩ -; refine Ev_in ?_))
    | (clear hnx nx; with_reducible apply hnx; clear hnx nx)
    | (clear hnx nx; clear hnx nx; with_reducible apply hnx; clear hnx nx))
    all_goals first
      | exact absurd trivial hc
      | (exfalso
         omega)
      | exact (by kernel_rfl : Tryd.prog.underlying 5 = some (.int .u8))
      | skip
    skip
    refine hfin _ _ (Fin_ret2 rfl rfl (Sub_sw nm) ?_)
    simp only [cob, simprocAttr]
    first | exact .inl ⟨rfl, nm, by rw [List.length_append], by rw [List.map_append]⟩ | exact .inl ⟨rfl, nm, by rw [if_pos rfl, List.length_append], by rw [if_pos rfl, List.map_append]⟩
  · repeat' (first
    | (with_reducible apply W_seq_k; intro nx hnx)
    | (with_reducible first | refine wr 3855 ?_)
    | (with_reducible refine WL_born (by simp) rfl (by simp) ?_; simp only [elemsOf, nl, bir, simprocAttr])
    | (with_reducible refine WL_bornH (by simp) (by simp) ?_ ?_ ?_; (· simp [frz, frz1, hnm]); (· simp [frz1, hnm, PV.one, Value.oneCell']); simp only [elemsOf, nl, bir, simprocAttr])
    | ((with_reducible first | (apply WL_op; intro nx hnx) | refine Ev_out ?_ | refine wc ?_ | (refine pf hnm fun nm hnm => ?_; try simp only [fmb] at hnm) | (refine pborn_im ?_; simp only [elemsOf, nl, bir, simprocAttr]) | (refine pmaybe_k ?_; intro bn hbn)); try (simp (maxSteps := 2000000) (disch := omega) only [ev, ↓evp, PV.cells, PV.one, PV.mem?, Value.cells, simprocAttr, hnm, Tryd.tf0, Tryd.tf1, Tryd.tf3, Tryd.tf4, Tryd.tf5, Tryd.tf9, Tryd.tf27, Tryd.tf28, Tryd.tf61, Tryd.call48, Tryd.call49, flat_pb]))
    | ((with_reducible first | apply W_block | apply W_scope | apply WL_nil | apply W_label | apply W_skip | apply W_exit | apply W_ret) <;> try simp only [kks, simprocAttr])
    | (with_reducible apply pg <;> (intro hc; (try simp only [hcb, simprocAttr, ne_eq, forall_const] at hc); first | (exfalso; omega) | exact absurd trivial hc | skip))
    | (with_reducible apply hnx; clear hnx nx)
    | (with_reducible refine And.intro (by omega) ?_)
    | (with_reducible refine And.intro ?_ ?_)
    | (with_reducible refine pe (s1) ?_)
    | (clear hnx nx; with_reducible apply hnx; clear hnx nx)
    | (clear hnx nx; clear hnx nx; with_reducible apply hnx; clear hnx nx))
    all_goals first
      | exact absurd trivial hc
      | (exfalso
         omega)
      | skip
    skip
    refine hfin _ _ (Fin_ret2 rfl rfl (Sub_nil _) ?_)
    simp only [cob, simprocAttr]
    first | exact .inr ⟨by rw [if_neg her], by rw [if_neg her], rfl⟩ | exact .inr ⟨rfl, rfl, rfl⟩
theorem file_c (G : Globs) (hG : G 1 = .iptr (KS.map pw) 0) (seed : List UInt8) (h n : Int) (m : List UInt8) (hs : seed.length ≤ 4000) (hn : inR n) (hm : m.length ≤ 4000) :
    PCalls Tryd.prog G 27 [pstr seed, pint .i64 h, pint .i64 n, pstr m] [] (fun res H => res = .tuple [.list 1 ((filF seed h n m).1.map pbyte), pint .i64 (filF seed h n m).2] ∧ H = []) := EncR.frz (file_r G hG seed h n m hs hn hm)
set_option maxRecDepth 100000 in
set_option maxHeartbeats 8000000 in
theorem rencode_c (G : Globs) (hG : G 1 = .iptr (KS.map pw) 0) (seed : List UInt8) (h n : Int) (u v : List (List UInt8)) (hs : seed.length ≤ 4000) (hn : inR n) (hu : Small u) (hv : Small v) :
    PCalls Tryd.prog G 9 [pstr seed, pint .i64 h, pint .i64 n, .list 1 (u.map pstr), .list 1 (v.map pstr)] [] (fun res H => res = .tuple [.list 1 ((encF seed h n u v).1.map pbyte), pint .i64 (encF seed h n u v).2] ∧ H = []) := by
  rw [encF_fil]
  have g1 := rdigest_l G hG u hu
  have g2 := rdigest_l G hG v hv
  have g3 := rdiff_c G u v (by have := hu.1; omega) (by have := hv.1; omega)
  have g4 := rmsg_c G u v hu hv
  have g5 := file_c G hG seed h n (msgM u v) hs hn (by have := msg_len hu hv; omega)
  have hl1 : ((dgL u).map pbyte).length = 16 := by rw [List.length_map, dgL_len]
  have hl2 : ((dgL v).map pbyte).length = 16 := by rw [List.length_map, dgL_len]
  have o1 := all_one_byte (dgL u)
  have o2 := all_one_byte (dgL v)
  (refine PCalls_f Tryd.func9 rfl Tryd.ntmps9 Tryd.results9 (by simp) fun fin hfin => ?_; have hnm : True := trivial; simp only [ev, simprocAttr])
  generalize filF seed h n (msgM u v) = R at *
  generalize msgM u v = M at *
  generalize diffL u v = L at *
  generalize dgL u = du at *
  generalize dgL v = dv at *
  repeat' (first
    | (with_reducible apply W_seq_k; intro nx hnx)
    | (with_reducible first | refine wr 3103 ?_)
    | (with_reducible refine WL_born (by simp) rfl (by simp) ?_; simp only [elemsOf, nl, bir, simprocAttr])
    | (with_reducible refine WL_bornH (by simp) (by simp) ?_ ?_ ?_; (· simp [frz, frz1, hnm]); (· simp [frz1, hnm, PV.one, Value.oneCell']); simp only [elemsOf, nl, bir, simprocAttr])
    | ((with_reducible first | (apply WL_op; intro nx hnx) | refine Ev_out ?_ | refine wc ?_); try (simp (maxSteps := 2000000) (disch := omega) only [ev, ↓evp, PV.cells, PV.one, PV.mem?, Value.cells, simprocAttr, hnm, Tryd.tf0, Tryd.tf1, Tryd.tf3, Tryd.tf5, Tryd.tf9, Tryd.tf24, Tryd.tf27, Tryd.tf28, Tryd.tf29, Tryd.tf37, Tryd.tf48, Tryd.tf52, Tryd.call27, Tryd.call28, Tryd.call29, Tryd.call30, hl1, hl2, o1, o2]))
    | ((with_reducible first | apply W_block | apply W_scope | apply WL_nil | apply W_label | apply W_skip | apply W_exit | apply W_ret) <;> try simp only [kks, simprocAttr])
    | (with_reducible apply hnx; clear hnx nx)
    | (with_reducible refine And.intro (by omega) ?_)
    | (with_reducible refine And.intro ?_ ?_)
    | (with_reducible refine pe (g1) ?_)
    | (with_reducible refine pe (g2) ?_)
    | (with_reducible refine pe (g3) ?_)
    | (with_reducible refine pe (g4) ?_)
    | (with_reducible refine pe (g5) ?_)
    | (clear hnx nx; with_reducible apply hnx; clear hnx nx)
    | (clear hnx nx; clear hnx nx; with_reducible apply hnx; clear hnx nx))
  all_goals first
    | exact absurd trivial hc
    | (exfalso
       omega)
    | (refine hfin _ _ (Fin_ret2 rfl rfl (Sub_nil _) ?_); simp only [cob, simprocAttr]; first | trivial | exact ⟨rfl, by trivial⟩ | (simp; done) | (simp; omega))
def seC (c : UInt8) (i : Nat) : List PV := List.replicate i (pbyte c) ++ List.replicate (32 - i) (pint .u8 0)
theorem seC_len {c : UInt8} {i : Nat} (h : i ≤ 32) : (seC c i).length = 32 := by simp [seC]; omega
theorem seC_zero (c : UInt8) : seC c 0 = List.replicate 32 (pint .u8 0) := rfl
theorem seC_full (c : UInt8) : seC c 32 = (List.replicate 32 c).map pbyte := by simp [seC]
theorem seC_put {c : UInt8} {i : Nat} (h : i < 32) : List.take i (seC c i) ++ [pbyte c] ++ List.drop (i + 1) (seC c i) = seC c (i + 1) := by
  obtain ⟨m, hm⟩ : ∃ m, 32 - i = m + 1 := ⟨32 - i - 1, by omega⟩
  have hl : (List.replicate i (pbyte c)).length = i := by simp
  rw [seC, seC, hm, show 32 - (i + 1) = m by omega, List.take_append_of_le_length (by omega), List.take_of_length_le (by omega), List.drop_append, hl, List.drop_of_length_le (by omega), show i + 1 - i = 1 by omega, List.replicate_succ, List.replicate_succ']
  simp
attribute [local irreducible] seC
set_option maxRecDepth 100000 in
set_option maxHeartbeats 8000000 in
theorem seed_c (G : Globs) (c : UInt8) : PCalls Tryd.prog G 10 [pbyte c] [] (fun res H => res = pstr (List.replicate 32 c) ∧ H = []) := by
  (refine PCalls_f Tryd.func10 rfl Tryd.ntmps10 Tryd.results10 (by simp) fun fin hfin => ?_; have hnm : True := trivial; simp only [ev, simprocAttr])
  repeat' (first
    | (with_reducible apply W_seq_k; intro nx hnx)
    | (with_reducible first | refine wr 29 ?_)
    | ((with_reducible first | (apply WL_op; intro nx hnx) | refine Ev_out ?_ | refine wc ?_ | (refine pf hnm fun nm hnm => ?_; try simp only [fmb] at hnm) | (refine pm hnm fun nm hnm => ?_; try simp only [fmb] at hnm)); try (simp (maxSteps := 2000000) (disch := omega) only [ev, ↓evp, PV.cells, PV.one, PV.mem?, Value.cells, simprocAttr, hnm, Tryd.tf0, Tryd.tf3, Tryd.tf4, Tryd.tf5, Tryd.tf9, Tryd.tf27]))
    | ((with_reducible first | apply W_block | apply W_scope | apply WL_nil | apply W_label | apply W_skip | apply W_exit | apply W_ret) <;> try simp only [kks, simprocAttr])
    | (with_reducible apply pg <;> (intro hc; (try simp only [hcb, simprocAttr, ne_eq, forall_const] at hc); first | (exfalso; omega) | exact absurd trivial hc | skip))
    | (with_reducible apply hnx; clear hnx nx)
    | (with_reducible refine And.intro (by omega) ?_)
    | (with_reducible refine And.intro ?_ ?_)
    | (clear hnx nx; with_reducible apply hnx; clear hnx nx)
    | (clear hnx nx; clear hnx nx; with_reducible apply hnx; clear hnx nx))
  obtain ⟨N, hN⟩ : ∃ N, N = nm := ⟨_, rfl⟩
  subst hN
  refine W_loop_k (fun z τ => ∃ i : Nat, i ≤ 32 ∧ z = 32 - i ∧ τ = ⟨fr 16 [(4, pint .i64 i), (3, .row N 1 32), (0, pbyte c)], [(N, ⟨5, true, 1, seC c i⟩)]⟩) 32
    ⟨fr 16 [(4, pint .i64 (0 : Nat)), (3, .row N 1 32), (0, pbyte c)], [(N, ⟨5, true, 1, seC c 0⟩)]⟩ (by
    rw [seC_zero]
    refine Wk_fr (by simp only [wkb, simprocAttr]) ?_
    exact Sub_refl (by simp [names])) ⟨0, by omega, by omega, rfl⟩ ?_
  rintro z τ ⟨i, hi, rfl, rfl⟩ lp hlp
  have hl := seC_len (c := c) hi
  by_cases hlt : i < 32
  · have hput := seC_put (c := c) hlt
    repeat' (first
    | (with_reducible apply W_seq_k; intro nx hnx)
    | (with_reducible first | refine wr 29 ?_)
    | ((with_reducible first | (apply WL_op; intro nx hnx) | refine Ev_out ?_ | refine wc ?_ | (refine pf hnm fun nm hnm => ?_; try simp only [fmb] at hnm) | (refine pm hnm fun nm hnm => ?_; try simp only [fmb] at hnm)); try (simp (maxSteps := 2000000) (disch := omega) only [ev, ↓evp, PV.cells, PV.one, PV.mem?, Value.cells, simprocAttr, hnm, Tryd.tf0, Tryd.tf3, Tryd.tf4, Tryd.tf5, Tryd.tf9, Tryd.tf27, hl, hput]))
    | ((with_reducible first | apply W_block | apply W_scope | apply WL_nil | apply W_label | apply W_skip | apply W_exit | apply W_ret) <;> try simp only [kks, simprocAttr])
    | (with_reducible apply pg <;> (intro hc; (try simp only [hcb, simprocAttr, ne_eq, forall_const] at hc); first | (exfalso; omega) | exact absurd trivial hc | skip))
    | (with_reducible apply hnx; clear hnx nx)
    | (with_reducible refine And.intro (by omega) ?_)
    | (with_reducible refine And.intro ?_ ?_)
    | (clear hnx nx; with_reducible apply hnx; clear hnx nx)
    | (clear hnx nx; clear hnx nx; with_reducible apply hnx; clear hnx nx))
    all_goals first
      | exact rfl
      | (exfalso
         omega)
      | (refine hlp _ (32 - (i + 1)) _ (by omega) ?_ ⟨i + 1, by omega, rfl, rfl⟩
         refine Wk_fr (by simp only [wkb, simprocAttr]) ?_
         exact Sub_refl (by simp [names]))
  · obtain rfl : i = 32 := by omega
    have hfull := seC_full c
    have hrl : (List.replicate 32 c).length = 32 := by simp
    rw [hfull] at hl ⊢
    generalize List.replicate 32 c = s at *
    have b1 := isByte_pb s
    have b2 := unb_pb s
    have tk : List.take 32 (s.map pbyte) = s.map pbyte := List.take_of_length_le (by omega)
    repeat' (first
    | (with_reducible apply W_seq_k; intro nx hnx)
    | (with_reducible first | refine wr 29 ?_)
    | ((with_reducible first | (apply WL_op; intro nx hnx) | refine Ev_out ?_ | refine wc ?_ | (refine pf hnm fun nm hnm => ?_; try simp only [fmb] at hnm) | (refine pm hnm fun nm hnm => ?_; try simp only [fmb] at hnm)); try (simp (maxSteps := 2000000) (disch := omega) only [ev, ↓evp, PV.cells, PV.one, PV.mem?, Value.cells, simprocAttr, hnm, Tryd.tf0, Tryd.tf3, Tryd.tf4, Tryd.tf5, Tryd.tf9, Tryd.tf27, hl, b1, b2, tk]))
    | ((with_reducible first | apply W_block | apply W_scope | apply WL_nil | apply W_label | apply W_skip | apply W_exit | apply W_ret) <;> try simp only [kks, simprocAttr])
    | (with_reducible apply pg <;> (intro hc; (try simp only [hcb, simprocAttr, ne_eq, forall_const] at hc); first | (exfalso; omega) | exact absurd trivial hc | skip))
    | (with_reducible apply hnx; clear hnx nx)
    | (with_reducible refine And.intro (by omega) ?_)
    | (with_reducible refine And.intro ?_ ?_)
    | (clear hnx nx; with_reducible apply hnx; clear hnx nx)
    | (clear hnx nx; clear hnx nx; with_reducible apply hnx; clear hnx nx))
    all_goals first
      | exact rfl
      | (exfalso
         omega)
      | (refine hfin _ _ (Fin_ret1 rfl (Sub_nil _) ?_); simp only [cob, simprocAttr]; first | trivial | exact ⟨rfl, by trivial⟩ | (simp; done) | (simp; omega))
end Go.PM

namespace Go.PM
open Go.Proofs
attribute [local irreducible] W PCalls pcall pcallI
theorem Chg.ext {c d : Chg} (h1 : c.at_ = d.at_) (h2 : c.drop = d.drop) (h3 : c.add = d.add) : c = d := by
  cases c
  cases d
  simp at h1 h2 h3
  simp [h1, h2, h3]
set_option maxRecDepth 100000 in
set_option maxHeartbeats 2000000 in
theorem same_c (G : Globs) (xs ys : List Chg) (hx : (xs.length : Int) ≤ 9223372036854775807) (ha : ∀ c ∈ xs, (c.add.length : Int) ≤ 9223372036854775807) :
    PCalls Tryd.prog G 19 [.list 3 (xs.map Chg.pv), .list 3 (ys.map Chg.pv)] [] (fun res H => res = pbool (decide (xs = ys)) ∧ H = []) := by
  (refine PCalls_f Tryd.func19 rfl Tryd.ntmps19 Tryd.results19 (by simp) fun fin hfin => ?_; have hnm : True := trivial; simp only [ev, simprocAttr])
  repeat' (first
    | (with_reducible apply W_seq_k; intro nx hnx)
    | (with_reducible first | refine wr 51 ?_ | refine wd (id := 6) 51 6 (.op 0 true (.op 1 true (.op 2 true (.op 3 true (.op 4 true (.op 5 true (.op 6 true (.op 7 true (.op 8 true (.op 9 true (.op 10 true (.op 11 true (.op 12 true (.op 13 true (.op 14 true (.op 15 true (.op 16 true (.op 17 true (.op 18 true (.op 19 true (.op 20 true (.op 21 true (.op 22 true (.op 23 true (.op 24 true (.op 25 true (.op 26 true (.op 27 true (.op 28 true (.op 29 true (.op 30 true (.op 31 true (.op 32 true (.op 33 true (.op 34 true (.op 35 false (.op 36 true (.op 37 true (.done))))))))))))))))))))))))))))))))))))))) (by kernel_rfl) ?_)
    | ((with_reducible first | (apply WL_op; intro nx hnx) | refine Ev_out ?_ | refine wc ?_ | (apply popsD_op; intro nx hnx) | (refine popsD_alt ?_ ?_; intro nx hnx)); try (simp (maxSteps := 2000000) (disch := omega) only [ev, ↓evp, PV.cells, PV.one, PV.mem?, Value.cells, simprocAttr, hnm, Tryd.tf0, Tryd.tf1, Tryd.tf2, Tryd.tf3, Tryd.tf4, Tryd.tf9, Tryd.tf24, Tryd.tf48, Tryd.tf52, Tryd.call13]))
    | ((with_reducible first | apply W_block | apply W_scope | apply WL_nil | apply W_label | apply W_skip | apply W_exit | apply W_ret | apply popsD_done | exact popsD_stop) <;> try simp only [kks, simprocAttr])
    | (with_reducible apply pg <;> (intro hc; (try simp only [hcb, simprocAttr, ne_eq, forall_const] at hc); first | (exfalso; omega) | exact absurd trivial hc | skip))
    | (with_reducible apply hnx; clear hnx nx)
    | (with_reducible refine And.intro (by omega) ?_)
    | (with_reducible refine And.intro ?_ ?_)
    | (clear hnx nx; with_reducible apply hnx; clear hnx nx)
    | (clear hnx nx; clear hnx nx; with_reducible apply hnx; clear hnx nx))
  · refine hfin _ _ (Fin_ret1 rfl (Sub_nil _) ?_); simp only [cob, simprocAttr]
    simp
    intro h
    exact hc (by rw [h])
  · refine W_loop_k (fun n τ => ∃ i : Nat, i ≤ xs.length ∧ n = xs.length - i ∧ xs.take i = ys.take i ∧ τ = ⟨fr 55 [(0, .list 3 (xs.map Chg.pv)), (1, .list 3 (ys.map Chg.pv)), (5, pint .i64 i)], []⟩) xs.length ⟨fr 55 [(0, .list 3 (xs.map Chg.pv)), (1, .list 3 (ys.map Chg.pv)), (5, pint .i64 (0 : Nat))], []⟩ (by exact Wk_fr (by simp only [wkb, simprocAttr]) (Sub_nil _)) ⟨0, by omega, by omega, by simp, rfl⟩ ?_
    rintro n τ ⟨i, hi, rfl, he, rfl⟩ lp hlp
    skip
    repeat' (first
    | (with_reducible apply W_seq_k; intro nx hnx)
    | (with_reducible first | refine wr 51 ?_ | refine wd (id := 6) 51 6 (.op 0 true (.op 1 true (.op 2 true (.op 3 true (.op 4 true (.op 5 true (.op 6 true (.op 7 true (.op 8 true (.op 9 true (.op 10 true (.op 11 true (.op 12 true (.op 13 true (.op 14 true (.op 15 true (.op 16 true (.op 17 true (.op 18 true (.op 19 true (.op 20 true (.op 21 true (.op 22 true (.op 23 true (.op 24 true (.op 25 true (.op 26 true (.op 27 true (.op 28 true (.op 29 true (.op 30 true (.op 31 true (.op 32 true (.op 33 true (.op 34 true (.op 35 false (.op 36 true (.op 37 true (.done))))))))))))))))))))))))))))))))))))))) (by kernel_rfl) ?_)
    | ((with_reducible first | (apply WL_op; intro nx hnx) | refine Ev_out ?_ | refine wc ?_ | (apply popsD_op; intro nx hnx) | (refine popsD_alt ?_ ?_; intro nx hnx)); try (simp (maxSteps := 2000000) (disch := omega) only [ev, ↓evp, PV.cells, PV.one, PV.mem?, Value.cells, simprocAttr, hnm, Tryd.tf0, Tryd.tf1, Tryd.tf2, Tryd.tf3, Tryd.tf4, Tryd.tf9, Tryd.tf24, Tryd.tf48, Tryd.tf52, Tryd.call13]))
    | ((with_reducible first | apply W_block | apply W_scope | apply WL_nil | apply W_label | apply W_skip | apply W_exit | apply W_ret | apply popsD_done | exact popsD_stop) <;> try simp only [kks, simprocAttr])
    | (with_reducible apply pg <;> (intro hc; (try simp only [hcb, simprocAttr, ne_eq, forall_const] at hc); first | (exfalso; omega) | exact absurd trivial hc | skip))
    | (with_reducible apply hnx; clear hnx nx)
    | (with_reducible refine And.intro (by omega) ?_)
    | (with_reducible refine And.intro ?_ ?_)
    | (clear hnx nx; with_reducible apply hnx; clear hnx nx)
    | (clear hnx nx; clear hnx nx; with_reducible apply hnx; clear hnx nx))
    · refine pcall_k (sameLines_c G _ _ (ha _ (List.getElem_mem _))) ?_
      rintro _ _ ⟨rfl, rfl⟩ -
      simp (maxSteps := 2000000) (disch := omega) only [ev, ↓evp, PV.cells, PV.one, PV.mem?, Value.cells, simprocAttr, hnm, Tryd.tf0, Tryd.tf1, Tryd.tf2, Tryd.tf3, Tryd.tf4, Tryd.tf9, Tryd.tf24, Tryd.tf48, Tryd.tf52, Tryd.call13]
      repeat' (first
    | (with_reducible apply W_seq_k; intro nx hnx)
    | (with_reducible first | refine wr 51 ?_ | refine wd (id := 6) 51 6 (.op 0 true (.op 1 true (.op 2 true (.op 3 true (.op 4 true (.op 5 true (.op 6 true (.op 7 true (.op 8 true (.op 9 true (.op 10 true (.op 11 true (.op 12 true (.op 13 true (.op 14 true (.op 15 true (.op 16 true (.op 17 true (.op 18 true (.op 19 true (.op 20 true (.op 21 true (.op 22 true (.op 23 true (.op 24 true (.op 25 true (.op 26 true (.op 27 true (.op 28 true (.op 29 true (.op 30 true (.op 31 true (.op 32 true (.op 33 true (.op 34 true (.op 35 false (.op 36 true (.op 37 true (.done))))))))))))))))))))))))))))))))))))))) (by kernel_rfl) ?_)
    | ((with_reducible first | (apply WL_op; intro nx hnx) | refine Ev_out ?_ | refine wc ?_ | (apply popsD_op; intro nx hnx) | (refine popsD_alt ?_ ?_; intro nx hnx)); try (simp (maxSteps := 2000000) (disch := omega) only [ev, ↓evp, PV.cells, PV.one, PV.mem?, Value.cells, simprocAttr, hnm, Tryd.tf0, Tryd.tf1, Tryd.tf2, Tryd.tf3, Tryd.tf4, Tryd.tf9, Tryd.tf24, Tryd.tf48, Tryd.tf52, Tryd.call13]))
    | ((with_reducible first | apply W_block | apply W_scope | apply WL_nil | apply W_label | apply W_skip | apply W_exit | apply W_ret | apply popsD_done | exact popsD_stop) <;> try simp only [kks, simprocAttr])
    | (with_reducible apply pg <;> (intro hc; (try simp only [hcb, simprocAttr, ne_eq, forall_const] at hc); first | (exfalso; omega) | exact absurd trivial hc | skip))
    | (with_reducible apply hnx; clear hnx nx)
    | (with_reducible refine And.intro (by omega) ?_)
    | (with_reducible refine And.intro ?_ ?_)
    | (clear hnx nx; with_reducible apply hnx; clear hnx nx)
    | (clear hnx nx; clear hnx nx; with_reducible apply hnx; clear hnx nx))
      · refine hfin _ _ (Fin_ret1 rfl (Sub_nil _) ?_); simp only [cob, simprocAttr]
        refine ⟨?_, trivial⟩
        simp
        intro h
        subst h
        exact hc rfl
      · refine hlp _ (xs.length - (i+1)) _ (by omega) ?_ ⟨i+1, by omega, rfl, ?_, rfl⟩
        · exact Wk_fr (by simp only [wkb, simprocAttr]) (Sub_nil _)
        · rw [List.take_add_one, List.take_add_one, he]
          have h1 : i < xs.length := by omega
          have h2 : i < ys.length := by omega
          rw [List.getElem?_eq_getElem h1, List.getElem?_eq_getElem h2, show xs[i] = ys[i] from Chg.ext ‹_› ‹_› hc]
    all_goals
      refine hfin _ _ (Fin_ret1 rfl (Sub_nil _) ?_); simp only [cob, simprocAttr]
      refine ⟨?_, trivial⟩
    · simp
      intro h
      subst h
      exact hc rfl
    · simp
      intro h
      subst h
      exact hc rfl
    · simp
      have h1 : xs.length ≤ i := by omega
      have h2 : ys.length ≤ i := by omega
      rw [List.take_of_length_le h1, List.take_of_length_le h2] at he
      exact he
end Go.PM

namespace Go.PM
open Go.Proofs
attribute [local irreducible] W PCalls pcall pcallI WL
set_option maxRecDepth 100000 in
set_option maxHeartbeats 8000000 in
theorem lives_c (G : Globs) : PCalls Tryd.prog G 5 [] [] (fun res H => res = pbool true ∧ H = []) := by
  (refine PCalls_f Tryd.func5 rfl Tryd.ntmps5 Tryd.results5 (by simp) fun fin hfin => ?_; have hnm : True := trivial; simp only [ev, simprocAttr])
  repeat' (first
    | (with_reducible apply W_seq_k; intro nx hnx)
    | (with_reducible first | refine wr 223 ?_)
    | (with_reducible refine WL_born (by simp) rfl (by simp) ?_; simp only [elemsOf, nl, bir, simprocAttr])
    | ((with_reducible first | (apply WL_op; intro nx hnx) | refine Ev_out ?_ | refine wc ?_ | (refine pf hnm fun nm hnm => ?_; try simp only [fmb] at hnm) | (refine pm hnm fun nm hnm => ?_; try simp only [fmb] at hnm)); try (simp (maxSteps := 2000000) (disch := omega) only [ev, ↓evp, PV.cells, PV.one, PV.mem?, Value.cells, simprocAttr, hnm, Tryd.tf0, Tryd.tf1, Tryd.tf2, Tryd.tf3, Tryd.tf4, Tryd.tf9, Tryd.tf24, Tryd.tf28, Tryd.tf42, Tryd.tf48, Tryd.tf52, Tryd.call13, Tryd.call16, Tryd.call17, Tryd.call18, Tryd.call19]))
    | ((with_reducible first | apply W_block | apply W_scope | apply WL_nil | apply W_label | apply W_skip | apply W_exit | apply W_ret) <;> try simp only [kks, simprocAttr])
    | (with_reducible apply pg <;> (intro hc; (try simp only [hcb, simprocAttr, ne_eq, forall_const] at hc); first | (exfalso; omega) | exact absurd trivial hc | skip))
    | (with_reducible apply hnx; clear hnx nx)
    | (with_reducible refine And.intro (by omega) ?_)
    | (with_reducible refine And.intro ?_ ?_)
    | (clear hnx nx; with_reducible apply hnx; clear hnx nx)
    | (clear hnx nx; clear hnx nx; with_reducible apply hnx; clear hnx nx))
  refine pcall_k (diff_c G [[97], [98], [99]] [[97], [120], [99], [100]] (by decide) (by decide)) ?_
  rintro _ _ ⟨rfl, rfl⟩ -
  (simp only [PState.put, fr_set, List.nil_append, List.append_nil]; try simp (maxSteps := 2000000) (disch := omega) only [ev, ↓evp, PV.cells, PV.one, PV.mem?, Value.cells, simprocAttr, hnm, Tryd.tf0, Tryd.tf1, Tryd.tf2, Tryd.tf3, Tryd.tf4, Tryd.tf9, Tryd.tf24, Tryd.tf28, Tryd.tf42, Tryd.tf48, Tryd.tf52, Tryd.call13, Tryd.call16, Tryd.call17, Tryd.call18, Tryd.call19])
  repeat' (first
    | (with_reducible apply W_seq_k; intro nx hnx)
    | (with_reducible first | refine wr 223 ?_)
    | (with_reducible refine WL_born (by simp) rfl (by simp) ?_; simp only [elemsOf, nl, bir, simprocAttr])
    | ((with_reducible first | (apply WL_op; intro nx hnx) | refine Ev_out ?_ | refine wc ?_ | (refine pf hnm fun nm hnm => ?_; try simp only [fmb] at hnm) | (refine pm hnm fun nm hnm => ?_; try simp only [fmb] at hnm)); try (simp (maxSteps := 2000000) (disch := omega) only [ev, ↓evp, PV.cells, PV.one, PV.mem?, Value.cells, simprocAttr, hnm, Tryd.tf0, Tryd.tf1, Tryd.tf2, Tryd.tf3, Tryd.tf4, Tryd.tf9, Tryd.tf24, Tryd.tf28, Tryd.tf42, Tryd.tf48, Tryd.tf52, Tryd.call13, Tryd.call16, Tryd.call17, Tryd.call18, Tryd.call19]))
    | ((with_reducible first | apply W_block | apply W_scope | apply WL_nil | apply W_label | apply W_skip | apply W_exit | apply W_ret) <;> try simp only [kks, simprocAttr])
    | (with_reducible apply pg <;> (intro hc; (try simp only [hcb, simprocAttr, ne_eq, forall_const] at hc); first | (exfalso; omega) | exact absurd trivial hc | skip))
    | (with_reducible apply hnx; clear hnx nx)
    | (with_reducible refine And.intro (by omega) ?_)
    | (with_reducible refine And.intro ?_ ?_)
    | (clear hnx nx; with_reducible apply hnx; clear hnx nx)
    | (clear hnx nx; clear hnx nx; with_reducible apply hnx; clear hnx nx))
  refine pcall_k (apply_c G [[97], [98], [99]] (diffL [[97], [98], [99]] [[97], [120], [99], [100]]) (by decide) (by decide) (by decide)) ?_
  rintro _ _ ⟨rfl, rfl⟩ -
  (simp only [PState.put, fr_set, List.nil_append, List.append_nil]; try simp (maxSteps := 2000000) (disch := omega) only [ev, ↓evp, PV.cells, PV.one, PV.mem?, Value.cells, simprocAttr, hnm, Tryd.tf0, Tryd.tf1, Tryd.tf2, Tryd.tf3, Tryd.tf4, Tryd.tf9, Tryd.tf24, Tryd.tf28, Tryd.tf42, Tryd.tf48, Tryd.tf52, Tryd.call13, Tryd.call16, Tryd.call17, Tryd.call18, Tryd.call19])
  repeat' (first
    | (with_reducible apply W_seq_k; intro nx hnx)
    | (with_reducible first | refine wr 223 ?_)
    | (with_reducible refine WL_born (by simp) rfl (by simp) ?_; simp only [elemsOf, nl, bir, simprocAttr])
    | ((with_reducible first | (apply WL_op; intro nx hnx) | refine Ev_out ?_ | refine wc ?_ | (refine pf hnm fun nm hnm => ?_; try simp only [fmb] at hnm) | (refine pm hnm fun nm hnm => ?_; try simp only [fmb] at hnm)); try (simp (maxSteps := 2000000) (disch := omega) only [ev, ↓evp, PV.cells, PV.one, PV.mem?, Value.cells, simprocAttr, hnm, Tryd.tf0, Tryd.tf1, Tryd.tf2, Tryd.tf3, Tryd.tf4, Tryd.tf9, Tryd.tf24, Tryd.tf28, Tryd.tf42, Tryd.tf48, Tryd.tf52, Tryd.call13, Tryd.call16, Tryd.call17, Tryd.call18, Tryd.call19]))
    | ((with_reducible first | apply W_block | apply W_scope | apply WL_nil | apply W_label | apply W_skip | apply W_exit | apply W_ret) <;> try simp only [kks, simprocAttr])
    | (with_reducible apply pg <;> (intro hc; (try simp only [hcb, simprocAttr, ne_eq, forall_const] at hc); first | (exfalso; omega) | exact absurd trivial hc | skip))
    | (with_reducible apply hnx; clear hnx nx)
    | (with_reducible refine And.intro (by omega) ?_)
    | (with_reducible refine And.intro ?_ ?_)
    | (clear hnx nx; with_reducible apply hnx; clear hnx nx)
    | (clear hnx nx; clear hnx nx; with_reducible apply hnx; clear hnx nx))
  refine pcall_k (apply_c G [[97]] [⟨1, 1, []⟩] (by decide) (by decide) (by decide)) ?_
  rintro _ _ ⟨rfl, rfl⟩ -
  (simp only [PState.put, fr_set, List.nil_append, List.append_nil]; try simp (maxSteps := 2000000) (disch := omega) only [ev, ↓evp, PV.cells, PV.one, PV.mem?, Value.cells, simprocAttr, hnm, Tryd.tf0, Tryd.tf1, Tryd.tf2, Tryd.tf3, Tryd.tf4, Tryd.tf9, Tryd.tf24, Tryd.tf28, Tryd.tf42, Tryd.tf48, Tryd.tf52, Tryd.call13, Tryd.call16, Tryd.call17, Tryd.call18, Tryd.call19])
  repeat' (first
    | (with_reducible apply W_seq_k; intro nx hnx)
    | (with_reducible first | refine wr 223 ?_)
    | (with_reducible refine WL_born (by simp) rfl (by simp) ?_; simp only [elemsOf, nl, bir, simprocAttr])
    | ((with_reducible first | (apply WL_op; intro nx hnx) | refine Ev_out ?_ | refine wc ?_ | (refine pf hnm fun nm hnm => ?_; try simp only [fmb] at hnm) | (refine pm hnm fun nm hnm => ?_; try simp only [fmb] at hnm)); try (simp (maxSteps := 2000000) (disch := omega) only [ev, ↓evp, PV.cells, PV.one, PV.mem?, Value.cells, simprocAttr, hnm, Tryd.tf0, Tryd.tf1, Tryd.tf2, Tryd.tf3, Tryd.tf4, Tryd.tf9, Tryd.tf24, Tryd.tf28, Tryd.tf42, Tryd.tf48, Tryd.tf52, Tryd.call13, Tryd.call16, Tryd.call17, Tryd.call18, Tryd.call19]))
    | ((with_reducible first | apply W_block | apply W_scope | apply WL_nil | apply W_label | apply W_skip | apply W_exit | apply W_ret) <;> try simp only [kks, simprocAttr])
    | (with_reducible apply pg <;> (intro hc; (try simp only [hcb, simprocAttr, ne_eq, forall_const] at hc); first | (exfalso; omega) | exact absurd trivial hc | skip))
    | (with_reducible apply hnx; clear hnx nx)
    | (with_reducible refine And.intro (by omega) ?_)
    | (with_reducible refine And.intro ?_ ?_)
    | (clear hnx nx; with_reducible apply hnx; clear hnx nx)
    | (clear hnx nx; clear hnx nx; with_reducible apply hnx; clear hnx nx))
  refine pcall_k (diff_c G [[97], [98]] [[98], [97]] (by decide) (by decide)) ?_
  rintro _ _ ⟨rfl, rfl⟩ -
  (simp only [PState.put, fr_set, List.nil_append, List.append_nil]; try simp (maxSteps := 2000000) (disch := omega) only [ev, ↓evp, PV.cells, PV.one, PV.mem?, Value.cells, simprocAttr, hnm, Tryd.tf0, Tryd.tf1, Tryd.tf2, Tryd.tf3, Tryd.tf4, Tryd.tf9, Tryd.tf24, Tryd.tf28, Tryd.tf42, Tryd.tf48, Tryd.tf52, Tryd.call13, Tryd.call16, Tryd.call17, Tryd.call18, Tryd.call19])
  rw [show applyE [[97], [98], [99]] (diffL [[97], [98], [99]] [[97], [120], [99], [100]]) = 0 by decide, show applyE [[97]] [⟨1, 1, []⟩] = 1 by decide]
  repeat' (first
    | (with_reducible apply W_seq_k; intro nx hnx)
    | (with_reducible first | refine wr 223 ?_)
    | (with_reducible refine WL_born (by simp) rfl (by simp) ?_; simp only [elemsOf, nl, bir, simprocAttr])
    | ((with_reducible first | (apply WL_op; intro nx hnx) | refine Ev_out ?_ | refine wc ?_ | (refine pf hnm fun nm hnm => ?_; try simp only [fmb] at hnm) | (refine pm hnm fun nm hnm => ?_; try simp only [fmb] at hnm)); try (simp (maxSteps := 2000000) (disch := omega) only [ev, ↓evp, PV.cells, PV.one, PV.mem?, Value.cells, simprocAttr, hnm, Tryd.tf0, Tryd.tf1, Tryd.tf2, Tryd.tf3, Tryd.tf4, Tryd.tf9, Tryd.tf24, Tryd.tf28, Tryd.tf42, Tryd.tf48, Tryd.tf52, Tryd.call13, Tryd.call16, Tryd.call17, Tryd.call18, Tryd.call19]))
    | ((with_reducible first | apply W_block | apply W_scope | apply WL_nil | apply W_label | apply W_skip | apply W_exit | apply W_ret) <;> try simp only [kks, simprocAttr])
    | (with_reducible apply pg <;> (intro hc; (try simp only [hcb, simprocAttr, ne_eq, forall_const] at hc); first | (exfalso; omega) | exact absurd trivial hc | skip))
    | (with_reducible apply hnx; clear hnx nx)
    | (with_reducible refine And.intro (by omega) ?_)
    | (with_reducible refine And.intro ?_ ?_)
    | (clear hnx nx; with_reducible apply hnx; clear hnx nx)
    | (clear hnx nx; clear hnx nx; with_reducible apply hnx; clear hnx nx))
  refine pcall_k (sameLines_c G (applyL [[97], [98], [99]] (diffL [[97], [98], [99]] [[97], [120], [99], [100]])) [[97], [120], [99], [100]] (by decide)) ?_
  rintro _ _ ⟨rfl, rfl⟩ -
  rw [show decide (applyL [[97], [98], [99]] (diffL [[97], [98], [99]] [[97], [120], [99], [100]]) = [[97], [120], [99], [100]]) = true by decide]
  (simp only [PState.put, fr_set, List.nil_append, List.append_nil]; try simp (maxSteps := 2000000) (disch := omega) only [ev, ↓evp, PV.cells, PV.one, PV.mem?, Value.cells, simprocAttr, hnm, Tryd.tf0, Tryd.tf1, Tryd.tf2, Tryd.tf3, Tryd.tf4, Tryd.tf9, Tryd.tf24, Tryd.tf28, Tryd.tf42, Tryd.tf48, Tryd.tf52, Tryd.call13, Tryd.call16, Tryd.call17, Tryd.call18, Tryd.call19])
  repeat' (first
    | (with_reducible apply W_seq_k; intro nx hnx)
    | (with_reducible first | refine wr 223 ?_)
    | (with_reducible refine WL_born (by simp) rfl (by simp) ?_; simp only [elemsOf, nl, bir, simprocAttr])
    | ((with_reducible first | (apply WL_op; intro nx hnx) | refine Ev_out ?_ | refine wc ?_ | (refine pf hnm fun nm hnm => ?_; try simp only [fmb] at hnm) | (refine pm hnm fun nm hnm => ?_; try simp only [fmb] at hnm)); try (simp (maxSteps := 2000000) (disch := omega) only [ev, ↓evp, PV.cells, PV.one, PV.mem?, Value.cells, simprocAttr, hnm, Tryd.tf0, Tryd.tf1, Tryd.tf2, Tryd.tf3, Tryd.tf4, Tryd.tf9, Tryd.tf24, Tryd.tf28, Tryd.tf42, Tryd.tf48, Tryd.tf52, Tryd.call13, Tryd.call16, Tryd.call17, Tryd.call18, Tryd.call19]))
    | ((with_reducible first | apply W_block | apply W_scope | apply WL_nil | apply W_label | apply W_skip | apply W_exit | apply W_ret) <;> try simp only [kks, simprocAttr])
    | (with_reducible apply pg <;> (intro hc; (try simp only [hcb, simprocAttr, ne_eq, forall_const] at hc); first | (exfalso; omega) | exact absurd trivial hc | skip))
    | (with_reducible apply hnx; clear hnx nx)
    | (with_reducible refine And.intro (by omega) ?_)
    | (with_reducible refine And.intro ?_ ?_)
    | (clear hnx nx; with_reducible apply hnx; clear hnx nx)
    | (clear hnx nx; clear hnx nx; with_reducible apply hnx; clear hnx nx))
  refine pcall_k (size_c G (diffL [[97], [98], [99]] [[97], [120], [99], [100]]) (by decide)) ?_
  rintro _ _ ⟨rfl, rfl⟩ -
  rw [show IntKind.i64.wrap (sizeL (diffL [[97], [98], [99]] [[97], [120], [99], [100]])) = 3 by decide]
  (simp only [PState.put, fr_set, List.nil_append, List.append_nil]; try simp (maxSteps := 2000000) (disch := omega) only [ev, ↓evp, PV.cells, PV.one, PV.mem?, Value.cells, simprocAttr, hnm, Tryd.tf0, Tryd.tf1, Tryd.tf2, Tryd.tf3, Tryd.tf4, Tryd.tf9, Tryd.tf24, Tryd.tf28, Tryd.tf42, Tryd.tf48, Tryd.tf52, Tryd.call13, Tryd.call16, Tryd.call17, Tryd.call18, Tryd.call19])
  repeat' (first
    | (with_reducible apply W_seq_k; intro nx hnx)
    | (with_reducible first | refine wr 223 ?_)
    | (with_reducible refine WL_born (by simp) rfl (by simp) ?_; simp only [elemsOf, nl, bir, simprocAttr])
    | ((with_reducible first | (apply WL_op; intro nx hnx) | refine Ev_out ?_ | refine wc ?_ | (refine pf hnm fun nm hnm => ?_; try simp only [fmb] at hnm) | (refine pm hnm fun nm hnm => ?_; try simp only [fmb] at hnm)); try (simp (maxSteps := 2000000) (disch := omega) only [ev, ↓evp, PV.cells, PV.one, PV.mem?, Value.cells, simprocAttr, hnm, Tryd.tf0, Tryd.tf1, Tryd.tf2, Tryd.tf3, Tryd.tf4, Tryd.tf9, Tryd.tf24, Tryd.tf28, Tryd.tf42, Tryd.tf48, Tryd.tf52, Tryd.call13, Tryd.call16, Tryd.call17, Tryd.call18, Tryd.call19]))
    | ((with_reducible first | apply W_block | apply W_scope | apply WL_nil | apply W_label | apply W_skip | apply W_exit | apply W_ret) <;> try simp only [kks, simprocAttr])
    | (with_reducible apply pg <;> (intro hc; (try simp only [hcb, simprocAttr, ne_eq, forall_const] at hc); first | (exfalso; omega) | exact absurd trivial hc | skip))
    | (with_reducible apply hnx; clear hnx nx)
    | (with_reducible refine And.intro (by omega) ?_)
    | (with_reducible refine And.intro ?_ ?_)
    | (clear hnx nx; with_reducible apply hnx; clear hnx nx)
    | (clear hnx nx; clear hnx nx; with_reducible apply hnx; clear hnx nx))
  refine pcall_k (same_c G (diffL [[97], [98], [99]] [[97], [120], [99], [100]]) [⟨1, 1, [[120]]⟩, ⟨3, 0, [[100]]⟩] (by decide) (by decide)) ?_
  rintro _ _ ⟨rfl, rfl⟩ -
  rw [show decide (diffL [[97], [98], [99]] [[97], [120], [99], [100]] = [⟨1, 1, [[120]]⟩, ⟨3, 0, [[100]]⟩]) = true by decide]
  (simp only [PState.put, fr_set, List.nil_append, List.append_nil]; try simp (maxSteps := 2000000) (disch := omega) only [ev, ↓evp, PV.cells, PV.one, PV.mem?, Value.cells, simprocAttr, hnm, Tryd.tf0, Tryd.tf1, Tryd.tf2, Tryd.tf3, Tryd.tf4, Tryd.tf9, Tryd.tf24, Tryd.tf28, Tryd.tf42, Tryd.tf48, Tryd.tf52, Tryd.call13, Tryd.call16, Tryd.call17, Tryd.call18, Tryd.call19])
  repeat' (first
    | (with_reducible apply W_seq_k; intro nx hnx)
    | (with_reducible first | refine wr 223 ?_)
    | (with_reducible refine WL_born (by simp) rfl (by simp) ?_; simp only [elemsOf, nl, bir, simprocAttr])
    | ((with_reducible first | (apply WL_op; intro nx hnx) | refine Ev_out ?_ | refine wc ?_ | (refine pf hnm fun nm hnm => ?_; try simp only [fmb] at hnm) | (refine pm hnm fun nm hnm => ?_; try simp only [fmb] at hnm)); try (simp (maxSteps := 2000000) (disch := omega) only [ev, ↓evp, PV.cells, PV.one, PV.mem?, Value.cells, simprocAttr, hnm, Tryd.tf0, Tryd.tf1, Tryd.tf2, Tryd.tf3, Tryd.tf4, Tryd.tf9, Tryd.tf24, Tryd.tf28, Tryd.tf42, Tryd.tf48, Tryd.tf52, Tryd.call13, Tryd.call16, Tryd.call17, Tryd.call18, Tryd.call19]))
    | ((with_reducible first | apply W_block | apply W_scope | apply WL_nil | apply W_label | apply W_skip | apply W_exit | apply W_ret) <;> try simp only [kks, simprocAttr])
    | (with_reducible apply pg <;> (intro hc; (try simp only [hcb, simprocAttr, ne_eq, forall_const] at hc); first | (exfalso; omega) | exact absurd trivial hc | skip))
    | (with_reducible apply hnx; clear hnx nx)
    | (with_reducible refine And.intro (by omega) ?_)
    | (with_reducible refine And.intro ?_ ?_)
    | (clear hnx nx; with_reducible apply hnx; clear hnx nx)
    | (clear hnx nx; clear hnx nx; with_reducible apply hnx; clear hnx nx))
  refine pcall_k (same_c G (diffL [[97], [98]] [[98], [97]]) [⟨0, 1, []⟩, ⟨2, 0, [[97]]⟩] (by decide) (by decide)) ?_
  rintro _ _ ⟨rfl, rfl⟩ -
  rw [show decide (diffL [[97], [98]] [[98], [97]] = [⟨0, 1, []⟩, ⟨2, 0, [[97]]⟩]) = true by decide]
  (simp only [PState.put, fr_set, List.nil_append, List.append_nil]; try simp (maxSteps := 2000000) (disch := omega) only [ev, ↓evp, PV.cells, PV.one, PV.mem?, Value.cells, simprocAttr, hnm, Tryd.tf0, Tryd.tf1, Tryd.tf2, Tryd.tf3, Tryd.tf4, Tryd.tf9, Tryd.tf24, Tryd.tf28, Tryd.tf42, Tryd.tf48, Tryd.tf52, Tryd.call13, Tryd.call16, Tryd.call17, Tryd.call18, Tryd.call19])
  repeat' (first
    | (with_reducible apply W_seq_k; intro nx hnx)
    | (with_reducible first | refine wr 223 ?_)
    | (with_reducible refine WL_born (by simp) rfl (by simp) ?_; simp only [elemsOf, nl, bir, simprocAttr])
    | ((with_reducible first | (apply WL_op; intro nx hnx) | refine Ev_out ?_ | refine wc ?_ | (refine pf hnm fun nm hnm => ?_; try simp only [fmb] at hnm) | (refine pm hnm fun nm hnm => ?_; try simp only [fmb] at hnm)); try (simp (maxSteps := 2000000) (disch := omega) only [ev, ↓evp, PV.cells, PV.one, PV.mem?, Value.cells, simprocAttr, hnm, Tryd.tf0, Tryd.tf1, Tryd.tf2, Tryd.tf3, Tryd.tf4, Tryd.tf9, Tryd.tf24, Tryd.tf28, Tryd.tf42, Tryd.tf48, Tryd.tf52, Tryd.call13, Tryd.call16, Tryd.call17, Tryd.call18, Tryd.call19]))
    | ((with_reducible first | apply W_block | apply W_scope | apply WL_nil | apply W_label | apply W_skip | apply W_exit | apply W_ret) <;> try simp only [kks, simprocAttr])
    | (with_reducible apply pg <;> (intro hc; (try simp only [hcb, simprocAttr, ne_eq, forall_const] at hc); first | (exfalso; omega) | exact absurd trivial hc | skip))
    | (with_reducible apply hnx; clear hnx nx)
    | (with_reducible refine And.intro (by omega) ?_)
    | (with_reducible refine And.intro ?_ ?_)
    | (clear hnx nx; with_reducible apply hnx; clear hnx nx)
    | (clear hnx nx; clear hnx nx; with_reducible apply hnx; clear hnx nx))
  · refine hfin _ _ (Fin_ret1 rfl (Sub_nil _) ?_); simp only [cob, simprocAttr]
    first | exact ⟨rfl, trivial⟩ | exact ⟨trivial, trivial⟩ | simp
  all_goals exact absurd trivial hc
end Go.PM

namespace Go.PM
open Go.Proofs
attribute [local irreducible] W PCalls pcall pcallI WL
theorem encF_ok (u v : List (List UInt8)) : ∃ x, encF (List.replicate 32 7) 1 1 u v = (x, 0) := by
  have h : signF (List.replicate 32 7) 1 1 (msgM u v) = (sigT (List.replicate 32 7) (1 : Int).toNat (1 : Int).toNat (msgM u v), 0) := by
    rw [signF, if_neg (by simp), if_neg (by simp)]
  unfold encF
  rw [h, if_pos rfl]
  exact ⟨_, rfl⟩
set_option maxRecDepth 100000 in
set_option maxHeartbeats 8000000 in
theorem law3_c (G : Globs) (h0 : G 0 = .iptr (KS.map pw) 0) (h1 : G 1 = .iptr (KS.map pw) 0) (s : List UInt8) (h n : Int) (l m : List Int) (hs : (s.length : Int) ≤ 9223372036854775807) (hh : inR h) (hn : inR n)
    (hl : (l.length : Int) ≤ 9223372036854775807) (hlb : ∀ x ∈ l, -9223372036854775808 ≤ x ∧ x ≤ 9223372036854775807) (hm : (m.length : Int) ≤ 9223372036854775807) (hmb : ∀ x ∈ m, -9223372036854775808 ≤ x ∧ x ≤ 9223372036854775807) :
    PCalls Tryd.prog G 3 [pstr s, pint .i64 h, pint .i64 n, .list 1 (l.map (pint .i64)), .list 1 (m.map (pint .i64))] [] (fun res H => res = pbool true ∧ H = []) := by
  have c0 := lives_c G
  have c1 := lines_c G l hl hlb
  have c2 := lines_c G m hm hmb
  have c3 : PCalls Tryd.prog G 7 [pstr s, pint .i64 40] [] (fun res H => res = pstr (s.take 40) ∧ H = []) := tshort_c G s 40 hs
  have c4 : PCalls Tryd.prog G 10 [pint .u8 7] [] (fun res H => res = pstr (List.replicate 32 7) ∧ H = []) := seed_c G 7
  have hsk : (s.take 40).length ≤ 4000 := by rw [List.length_take]; omega
  have s1 := lines_small l
  have s2 := lines_small m
  have e1 := encode_c G h0 (s.take 40) h n _ _ hsk hn s1 s2
  have e2 := rencode_c G h1 (s.take 40) h n _ _ hsk hn s1 s2
  have e3 := encode_c G h0 (List.replicate 32 7) 1 1 _ _ (by simp) ⟨by omega, by omega⟩ s1 s2
  have e4 := rencode_c G h1 (List.replicate 32 7) 1 1 _ _ (by simp) ⟨by omega, by omega⟩ s1 s2
  obtain ⟨x, hx⟩ := encF_ok ((l.take 14).map lineI) ((m.take 14).map lineI)
  rw [hx] at e3 e4
  clear hx s1 s2 hsk
  generalize encF (s.take 40) h n ((l.take 14).map lineI) ((m.take 14).map lineI) = r at *
  obtain ⟨r, er⟩ := r
  generalize (l.take 14).map lineI = u at *
  generalize (m.take 14).map lineI = v at *
  generalize s.take 40 = sk at *
  generalize List.replicate 32 (7 : UInt8) = sd at *
  unfold keyP at e1 e3
  simp only at e1 e2 e3 e4
  have b1 := isByte_pb r
  have b2 := unb_pb r
  have b3 := isByte_pb x
  have b4 := unb_pb x
  (refine PCalls_f Tryd.func3 rfl Tryd.ntmps3 Tryd.results3 (by simp) fun fin hfin => ?_; have hnm : True := trivial; simp only [ev, simprocAttr])
  by_cases hh1 : 1 < h ∧ h ≤ 6
  · repeat' (first
    | (with_reducible apply W_seq_k; intro nx hnx)
    | (with_reducible first | refine wr 4193311 ?_)
    | ((with_reducible first | (apply WL_op; intro nx hnx) | refine Ev_out ?_ | refine wc ?_ | (refine pf hnm fun nm hnm => ?_; try simp only [fmb] at hnm) | (refine pm hnm fun nm hnm => ?_; try simp only [fmb] at hnm)); try (simp (maxSteps := 2000000) (disch := omega) only [ev, ↓evp, PV.cells, PV.one, PV.mem?, Value.cells, simprocAttr, hnm, Tryd.tf0, Tryd.tf1, Tryd.tf3, Tryd.tf4, Tryd.tf5, Tryd.tf9, Tryd.tf22, Tryd.tf24, Tryd.tf27, Tryd.tf28, Tryd.tf29, Tryd.tf32, Tryd.call5, Tryd.call6, Tryd.call7, Tryd.call8, Tryd.call9, Tryd.call10]))
    | ((with_reducible first | apply W_block | apply W_scope | apply WL_nil | apply W_label | apply W_skip | apply W_exit | apply W_ret) <;> try simp only [kks, simprocAttr])
    | (with_reducible apply pg <;> (intro hc; (try simp only [hcb, simprocAttr, ne_eq, forall_const] at hc); first | (exfalso; omega) | exact absurd trivial hc | skip))
    | (with_reducible apply hnx; clear hnx nx)
    | (with_reducible refine And.intro (by omega) ?_)
    | (with_reducible refine And.intro ?_ ?_)
    | (with_reducible refine pe (c0) ?_)
    | (clear hnx nx; with_reducible apply hnx; clear hnx nx)
    | (clear hnx nx; clear hnx nx; with_reducible apply hnx; clear hnx nx))
    all_goals first
      | exact absurd trivial hc
      | (exfalso
         omega)
      | exact (by kernel_rfl : Tryd.prog.underlying 5 = some (.int .u8))
      | (refine hfin _ _ (Fin_ret1 rfl (Sub_nil _) ?_); simp only [cob, simprocAttr]; first | trivial | exact ⟨rfl, by trivial⟩ | (simp; done) | (simp; omega))
  · by_cases hh2 : 1 < h
    · repeat' (first
    | (with_reducible apply W_seq_k; intro nx hnx)
    | (with_reducible first | refine wr 4193311 ?_)
    | ((with_reducible first | (apply WL_op; intro nx hnx) | refine Ev_out ?_ | refine wc ?_ | (refine pf hnm fun nm hnm => ?_; try simp only [fmb] at hnm) | (refine pm hnm fun nm hnm => ?_; try simp only [fmb] at hnm)); try (simp (maxSteps := 2000000) (disch := omega) only [ev, ↓evp, PV.cells, PV.one, PV.mem?, Value.cells, simprocAttr, hnm, Tryd.tf0, Tryd.tf1, Tryd.tf3, Tryd.tf4, Tryd.tf5, Tryd.tf9, Tryd.tf22, Tryd.tf24, Tryd.tf27, Tryd.tf28, Tryd.tf29, Tryd.tf32, Tryd.call5, Tryd.call6, Tryd.call7, Tryd.call8, Tryd.call9, Tryd.call10, b1, b2, b3, b4]))
    | ((with_reducible first | apply W_block | apply W_scope | apply WL_nil | apply W_label | apply W_skip | apply W_exit | apply W_ret) <;> try simp only [kks, simprocAttr])
    | (with_reducible apply pg <;> (intro hc; (try simp only [hcb, simprocAttr, ne_eq, forall_const] at hc); first | (exfalso; omega) | exact absurd trivial hc | skip))
    | (with_reducible apply hnx; clear hnx nx)
    | (with_reducible refine And.intro (by omega) ?_)
    | (with_reducible refine And.intro ?_ ?_)
    | (with_reducible refine pe (c0) ?_)
    | (with_reducible refine pe (c1) ?_)
    | (with_reducible refine pe (c2) ?_)
    | (with_reducible refine pe (c3) ?_)
    | (with_reducible refine pe (c4) ?_)
    | (with_reducible refine pe (e1) ?_)
    | (with_reducible refine pe (e2) ?_)
    | (with_reducible refine pe (e3) ?_)
    | (with_reducible refine pe (e4) ?_)
    | (clear hnx nx; with_reducible apply hnx; clear hnx nx)
    | (clear hnx nx; clear hnx nx; with_reducible apply hnx; clear hnx nx))
      all_goals first
        | exact absurd trivial hc
        | (exfalso
           omega)
        | exact (by kernel_rfl : Tryd.prog.underlying 5 = some (.int .u8))
        | (refine hfin _ _ (Fin_ret1 rfl (Sub_nil _) ?_); simp only [cob, simprocAttr]; first | trivial | exact ⟨rfl, by trivial⟩ | (simp; done) | (simp; omega))
    · repeat' (first
    | (with_reducible apply W_seq_k; intro nx hnx)
    | (with_reducible first | refine wr 4193311 ?_)
    | ((with_reducible first | (apply WL_op; intro nx hnx) | refine Ev_out ?_ | refine wc ?_ | (refine pf hnm fun nm hnm => ?_; try simp only [fmb] at hnm) | (refine pm hnm fun nm hnm => ?_; try simp only [fmb] at hnm)); try (simp (maxSteps := 2000000) (disch := omega) only [ev, ↓evp, PV.cells, PV.one, PV.mem?, Value.cells, simprocAttr, hnm, Tryd.tf0, Tryd.tf1, Tryd.tf3, Tryd.tf4, Tryd.tf5, Tryd.tf9, Tryd.tf22, Tryd.tf24, Tryd.tf27, Tryd.tf28, Tryd.tf29, Tryd.tf32, Tryd.call5, Tryd.call6, Tryd.call7, Tryd.call8, Tryd.call9, Tryd.call10, b1, b2, b3, b4]))
    | ((with_reducible first | apply W_block | apply W_scope | apply WL_nil | apply W_label | apply W_skip | apply W_exit | apply W_ret) <;> try simp only [kks, simprocAttr])
    | (with_reducible apply pg <;> (intro hc; (try simp only [hcb, simprocAttr, ne_eq, forall_const] at hc); first | (exfalso; omega) | exact absurd trivial hc | skip))
    | (with_reducible apply hnx; clear hnx nx)
    | (with_reducible refine And.intro (by omega) ?_)
    | (with_reducible refine And.intro ?_ ?_)
    | (with_reducible refine pe (c0) ?_)
    | (with_reducible refine pe (c1) ?_)
    | (with_reducible refine pe (c2) ?_)
    | (with_reducible refine pe (c3) ?_)
    | (with_reducible refine pe (c4) ?_)
    | (with_reducible refine pe (e1) ?_)
    | (with_reducible refine pe (e2) ?_)
    | (with_reducible refine pe (e3) ?_)
    | (with_reducible refine pe (e4) ?_)
    | (clear hnx nx; with_reducible apply hnx; clear hnx nx)
    | (clear hnx nx; clear hnx nx; with_reducible apply hnx; clear hnx nx))
      all_goals first
        | exact absurd trivial hc
        | (exfalso
           omega)
        | exact (by kernel_rfl : Tryd.prog.underlying 5 = some (.int .u8))
        | (refine hfin _ _ (Fin_ret1 rfl (Sub_nil _) ?_); simp only [cob, simprocAttr]; first | trivial | exact ⟨rfl, by trivial⟩ | (simp; done) | (simp; omega))
end Go.PM
