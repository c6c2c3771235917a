/- Joined texts (HGc HGd HGe HGf HGg HGh HKb HKc HMb HMc HMd HMa HGi HMe HMf HGj HMg HGl): the machine, the contracts, the laws. Conditions: none but those that each names. -/
import Derived.Test.YtpijanidieamlaaDoorJe
import Derived.Shelf.Strings.Builder1
import Derived.Test.YtpijanidieamlaaDoorChecked
set_option linter.unusedSimpArgs false
set_option linter.unusedVariables false
namespace Go.PM
open Go.Proofs
attribute [local irreducible] W PCalls pcall pcallI WL
/-- One step of a chain. -/
def stepC (i c t : Int) (v : List UInt8) : List UInt8 := ofH 8 [encI [i, c, t], v]
/-- Some steps of a chain. -/
def advF (i c : Int) : Int → Nat → List UInt8 → List UInt8
  | _, 0, v => v
  | t, n + 1, v => advF i c (t + 1) n (stepC i c t v)
theorem stepC_len (i c t : Int) (v : List UInt8) : (stepC i c t v).length = 16 := ofH_len _ _
theorem advF_len (i c : Int) : ∀ (n : Nat) (t : Int) (v : List UInt8), v.length = 16 → (advF i c t n v).length = 16
  | 0, _, _, h => h
  | n + 1, t, v, _ => advF_len i c n (t + 1) _ (stepC_len i c t v)
theorem advF_lt (i c : Int) {t to : Int} (v : List UInt8) (h : t < to) : advF i c t (to - t).toNat v = advF i c (t + 1) (to - (t + 1)).toNat (stepC i c t v) := by
  obtain ⟨n, hn⟩ : ∃ n, (to - t).toNat = n + 1 := ⟨(to - t).toNat - 1, by omega⟩
  rw [hn, advF, show (to - (t + 1)).toNat = n by omega]
theorem advF_ge (i c : Int) {t to : Int} (v : List UInt8) (h : ¬ t < to) : advF i c t (to - t).toNat v = v := by
  rw [show (to - t).toNat = 0 by omega, advF]
theorem inR3 {a b c : Int} (h1 : inR a) (h2 : inR b) (h3 : inR c) : ∀ n ∈ [a, b, c], inR n := by
  intro n hn
  rcases List.mem_cons.1 hn with rfl | hn
  · exact h1
  · rcases List.mem_cons.1 hn with rfl | hn
    · exact h2
    · rw [List.mem_singleton.1 hn]
      exact h3
set_option maxRecDepth 100000 in
set_option maxHeartbeats 8000000 in
theorem adv_c (G : Globs) (hG : G 0 = .iptr (KS.map pw) 0) (i c t0 to : Int) (v0 : List UInt8) (hi : inR i) (hc : inR c) (h1 : 0 ≤ t0) (h2 : t0 ≤ 100) (h3 : 0 ≤ to) (h4 : to ≤ 100) (hv0 : v0.length = 16) :
    PCalls Tryd.prog G 45 [pint .i64 i, pint .i64 c, pint .i64 t0, pint .i64 to, .agg (v0.map pbyte)] [] (fun res H => res = .agg ((advF i c t0 (to - t0).toNat v0).map pbyte) ∧ H = []) := by
  have hFl := advF_len i c (to - t0).toNat t0 v0 hv0
  generalize hF : advF i c t0 (to - t0).toNat v0 = F at *
  have hl0 : (v0.map pbyte).length = 16 := by rw [List.length_map, hv0]
  have ho0 := all_one_byte v0
  obtain ⟨Z, hZ⟩ : ∃ Z, Z = List.replicate 16 (pint .u8 0) := ⟨_, rfl⟩
  have hZ2 : [pint .u8 0, pint .u8 0, pint .u8 0, pint .u8 0, pint .u8 0, pint .u8 0, pint .u8 0, pint .u8 0, pint .u8 0, pint .u8 0, pint .u8 0, pint .u8 0, pint .u8 0, pint .u8 0, pint .u8 0, pint .u8 0] = Z := by rw [hZ]; rfl
  have hZl : Z.length = 16 := by rw [hZ]; rfl
  have hZd : List.drop 16 Z = [] := List.drop_of_length_le (by omega)
  (refine PCalls_f Tryd.func45 rfl Tryd.ntmps45 Tryd.results45 (by simp) fun fin hfin => ?_; have hnm : True := trivial; simp only [ev, simprocAttr])
  repeat' (first
    | (with_reducible apply W_seq_k; intro nx hnx)
    | (with_reducible first | refine wr 3615 ?_ | refine wd (id := 4) 3615 3 (.op 0 true (.op 1 true (.op 2 true (.op 5 true (.op 6 true (.op 3 true (.op 4 true (.op 7 false (.op 8 false (.op 9 false (.done))))))))))) (by kernel_rfl) ?_)
    | ((with_reducible first | (apply WL_op; intro nx hnx) | refine Ev_out ?_ | refine wc ?_ | (apply popsD_op; intro nx hnx) | (refine popsD_alt ?_ ?_; intro nx hnx) | (refine pf hnm fun nm hnm => ?_; try simp only [fmb] at hnm) | (refine pm hnm fun nm hnm => ?_; try simp only [fmb] at hnm)); try (simp (maxSteps := 2000000) (disch := omega) only [ev, ↓evp, PV.cells, PV.one, PV.mem?, Value.cells, simprocAttr, hnm, Tryd.tf0, Tryd.tf2, Tryd.tf3, Tryd.tf4, Tryd.tf5, Tryd.tf9, Tryd.tf22, Tryd.tf24, Tryd.tf27, Tryd.tf37, Tryd.call14, Tryd.call68, hl0, ho0]))
    | ((with_reducible first | apply W_block | apply W_scope | apply WL_nil | apply W_label | apply W_skip | apply W_exit | apply W_ret | apply popsD_done | exact popsD_stop) <;> try simp only [kks, simprocAttr])
    | (with_reducible apply pg <;> (intro hc; (try simp only [hcb, simprocAttr, ne_eq, forall_const] at hc); first | (exfalso; omega) | exact absurd trivial hc | skip))
    | (with_reducible apply hnx; clear hnx nx)
    | (with_reducible refine And.intro (by omega) ?_)
    | (with_reducible refine And.intro ?_ ?_)
    | (clear hnx nx; with_reducible apply hnx; clear hnx nx)
    | (clear hnx nx; clear hnx nx; with_reducible apply hnx; clear hnx nx))
  obtain ⟨NB, hNB⟩ : ∃ N, N = nm := ⟨_, rfl⟩
  subst hNB
  obtain ⟨NA, hNA⟩ : ∃ N, N = nm := ⟨_, rfl⟩
  subst hNA
  refine W_loop_k (fun z τ => ∃ (t : Int) (v : List UInt8), 0 ≤ t ∧ t ≤ 100 ∧ z = (to - t).toNat ∧ v.length = 16 ∧ advF i c t (to - t).toNat v = F ∧
      τ = ⟨fr 28 [(11, pint .i64 t), (0, pint .i64 i), (1, pint .i64 c), (3, pint .i64 to), (9, .ptr NA 0), (10, .ptr NB 0)], [(NB, ⟨37, false, 0, Z⟩), (NA, ⟨37, false, 0, v.map pbyte⟩)]⟩) (to - t0).toNat
    ⟨fr 28 [(11, pint .i64 t0), (0, pint .i64 i), (1, pint .i64 c), (3, pint .i64 to), (9, .ptr NA 0), (10, .ptr NB 0)], [(NB, ⟨37, false, 0, Z⟩), (NA, ⟨37, false, 0, v0.map pbyte⟩)]⟩ (by
    rw [← hZ2]
    refine Wk_fr (by simp only [wkb, simprocAttr]) ?_
    exact Sub_refl (by simp [names, hnm])) ⟨t0, v0, h1, h2, rfl, hv0, hF, rfl⟩ ?_
  clear hF hl0 ho0 hv0
  rintro z τ ⟨t, v, t1, t2, rfl, hv, hF, rfl⟩ lp hlp
  have hl := hv
  rw [← List.length_map (f := pbyte)] at hl
  have ho := all_one_byte v
  have htk : List.take 16 (v.map pbyte) = v.map pbyte := List.take_of_length_le (by omega)
  have hdr : List.drop 16 (v.map pbyte) = [] := List.drop_of_length_le (by omega)
  by_cases hlt : t < to
  · rw [advF_lt i c v hlt] at hF
    have c1 := ints_c G [i, c, t] (inR3 hi hc ⟨by omega, by omega⟩) (by simp)
    have hel := encI_len (inR3 hi hc (show inR t from ⟨by omega, by omega⟩)) (by simp)
    have c2 := hof_c G hG 8 [encI [i, c, t], v] (all_lt2 (by omega) (by omega)) (by simp)
    have hsl := stepC_len i c t v
    rw [show ofH 8 [encI [i, c, t], v] = stepC i c t v from rfl] at c2
    simp only [List.map_cons, List.map_nil] at c1 c2
    generalize stepC i c t v = s at *
    generalize encI [i, c, t] = e at *
    have b1 := isByte_pb v
    have b2 := unb_pb v
    have hsl2 : (s.map pbyte).length = 16 := by rw [List.length_map, hsl]
    have hso := all_one_byte s
    have hst : List.take 16 (s.map pbyte) = s.map pbyte := List.take_of_length_le (by omega)
    repeat' (first
    | (with_reducible apply W_seq_k; intro nx hnx)
    | (with_reducible first | refine wr 3615 ?_ | refine wd (id := 4) 3615 3 (.op 0 true (.op 1 true (.op 2 true (.op 5 true (.op 6 true (.op 3 true (.op 4 true (.op 7 false (.op 8 false (.op 9 false (.done))))))))))) (by kernel_rfl) ?_)
    | (with_reducible refine WL_born (by simp) rfl (by simp) ?_; simp only [elemsOf, nl, bir, simprocAttr])
    | (with_reducible refine WL_bornH (by simp) (by simp) ?_ ?_ ?_; (· simp [frz, frz1, hnm]); (· simp [frz1, hnm, PV.one, Value.oneCell']); simp only [elemsOf, nl, bir, simprocAttr])
    | ((with_reducible first | (apply WL_op; intro nx hnx) | refine Ev_out ?_ | refine wc ?_ | (apply popsD_op; intro nx hnx) | (refine popsD_alt ?_ ?_; intro nx hnx) | (refine pf hnm fun nm hnm => ?_; try simp only [fmb] at hnm) | (refine pborn_im ?_; simp only [elemsOf, nl, bir, simprocAttr])); try (simp (maxSteps := 2000000) (disch := omega) only [ev, ↓evp, PV.cells, PV.one, PV.mem?, Value.cells, simprocAttr, hnm, Tryd.tf0, Tryd.tf2, Tryd.tf3, Tryd.tf4, Tryd.tf5, Tryd.tf9, Tryd.tf22, Tryd.tf24, Tryd.tf27, Tryd.tf37, Tryd.call14, Tryd.call68, hlt, hl, ho, htk, hdr, b1, b2, hsl2, hso, hst]))
    | ((with_reducible first | apply W_block | apply W_scope | apply WL_nil | apply W_label | apply W_skip | apply W_exit | apply W_ret | apply popsD_done | exact popsD_stop) <;> try simp only [kks, simprocAttr])
    | (with_reducible apply pg <;> (intro hc; (try simp only [hcb, simprocAttr, ne_eq, forall_const] at hc); first | (exfalso; omega) | exact absurd trivial hc | skip))
    | (with_reducible apply hnx; clear hnx nx)
    | (with_reducible refine And.intro (by omega) ?_)
    | (with_reducible refine And.intro ?_ ?_)
    | (with_reducible refine pe (c1) ?_)
    | (with_reducible refine pe (c2) ?_)
    | (clear hnx nx; with_reducible apply hnx; clear hnx nx)
    | (clear hnx nx; clear hnx nx; with_reducible apply hnx; clear hnx nx))
    all_goals first
      | exact rfl
      | (exfalso
         omega)
      | (refine hlp _ (to - (t + 1)).toNat _ (by omega) ?_ ⟨t + 1, s, by omega, by omega, rfl, hsl, hF, rfl⟩
         refine Wk_fr (by simp only [wkb, simprocAttr]) ?_
         exact Sub_refl (by simp [names, hnm]))
  · rw [advF_ge i c v hlt] at hF
    subst hF
    repeat' (first
    | (with_reducible apply W_seq_k; intro nx hnx)
    | (with_reducible first | refine wr 3615 ?_ | refine wd (id := 4) 3615 3 (.op 0 true (.op 1 true (.op 2 true (.op 5 true (.op 6 true (.op 3 true (.op 4 true (.op 7 false (.op 8 false (.op 9 false (.done))))))))))) (by kernel_rfl) ?_)
    | ((with_reducible first | (apply WL_op; intro nx hnx) | refine Ev_out ?_ | refine wc ?_ | (apply popsD_op; intro nx hnx) | (refine popsD_alt ?_ ?_; intro nx hnx) | (refine pf hnm fun nm hnm => ?_; try simp only [fmb] at hnm) | (refine pm hnm fun nm hnm => ?_; try simp only [fmb] at hnm)); try (simp (maxSteps := 2000000) (disch := omega) only [ev, ↓evp, PV.cells, PV.one, PV.mem?, Value.cells, simprocAttr, hnm, Tryd.tf0, Tryd.tf2, Tryd.tf3, Tryd.tf4, Tryd.tf5, Tryd.tf9, Tryd.tf22, Tryd.tf24, Tryd.tf27, Tryd.tf37, Tryd.call14, Tryd.call68, hlt, hl, ho, htk, hdr, hZl, hZd]))
    | ((with_reducible first | apply W_block | apply W_scope | apply WL_nil | apply W_label | apply W_skip | apply W_exit | apply W_ret | apply popsD_done | exact popsD_stop) <;> try simp only [kks, simprocAttr])
    | (with_reducible apply pg <;> (intro hc; (try simp only [hcb, simprocAttr, ne_eq, forall_const] at hc); first | (exfalso; omega) | exact absurd trivial hc | skip))
    | (with_reducible apply hnx; clear hnx nx)
    | (with_reducible refine And.intro (by omega) ?_)
    | (with_reducible refine And.intro ?_ ?_)
    | (clear hnx nx; with_reducible apply hnx; clear hnx nx)
    | (clear hnx nx; clear hnx nx; with_reducible apply hnx; clear hnx nx))
    all_goals first
      | exact rfl
      | (exfalso
         omega)
      | (refine hfin _ _ ?_
         exact Fin_dig (n := NB) (by simp only [fr_getD_cons, Nat.reduceEqDiff, Nat.reduceLT, ↓reduceIte]) (by simp [look, hnm]) hFl ⟨rfl, rfl⟩)
end Go.PM

namespace Go.PM
open Go.Proofs
attribute [local irreducible] W PCalls pcall pcallI WL
/-- The cells of a digest that is filled. -/
def dgC (s : List UInt8) (i : Nat) : List PV := (s.take i).map pbyte ++ List.replicate (16 - i) (pint .u8 0)
theorem dgC_len {s : List UInt8} {i : Nat} (hs : 16 ≤ s.length) (h : i ≤ 16) : (dgC s i).length = 16 := by
  simp only [dgC, List.length_append, List.length_map, List.length_take, List.length_replicate]
  omega
theorem dgC_zero (s : List UInt8) : dgC s 0 = List.replicate 16 (pint .u8 0) := rfl
theorem dgC_full {s : List UInt8} (hs : 16 ≤ s.length) : dgC s 16 = (s.take 16).map pbyte := by
  simp [dgC]
theorem dgC_set {s : List UInt8} {i : Nat} {x : UInt8} (hs : 16 ≤ s.length) (h : i < 16) (hx : s[i]? = some x) : (dgC s i).set i (pbyte x) = dgC s (i + 1) := by
  obtain ⟨m, hm⟩ : ∃ m, 16 - i = m + 1 := ⟨16 - i - 1, by omega⟩
  have hl : ((s.take i).map pbyte).length = i := by rw [List.length_map, List.length_take]; omega
  rw [dgC, dgC, hm, List.set_append, hl, if_neg (by omega), show 16 - (i + 1) = m by omega, List.replicate_succ, Nat.sub_self, List.set_cons_zero, List.take_add_one, hx]
  simp
theorem dgC_put {s : List UInt8} {i : Nat} (hs : 16 ≤ s.length) (h : i < 16) : List.take i (dgC s i) ++ [pint .u8 (((s.getD i 0).toNat : Nat) : Int)] ++ List.drop (i + 1) (dgC s i) = dgC s (i + 1) := by
  obtain ⟨x, hx⟩ : ∃ x, s[i]? = some x := ⟨_, List.getElem?_eq_getElem (show i < s.length by omega)⟩
  have hl := dgC_len hs (show i ≤ 16 by omega)
  have hg : s.getD i 0 = x := by rw [List.getD_eq_getElem?_getD, hx]; rfl
  rw [← dgC_set hs h hx, hg, List.set_eq_take_append_cons_drop, if_pos (by omega), List.append_assoc]
  rfl
attribute [local irreducible] dgC
set_option maxRecDepth 100000 in
set_option maxHeartbeats 8000000 in
theorem digest_c (G : Globs) (s : List UInt8) (hs : 16 ≤ s.length) (hs2 : s.length ≤ 4000) : PCalls Tryd.prog G 88 [pstr s] [] (fun res H => res = .agg ((s.take 16).map pbyte) ∧ H = []) := by
  obtain ⟨Z, hZ⟩ : ∃ Z, Z = List.replicate 16 (pint .u8 0) := ⟨_, rfl⟩
  have hZ2 : [pint .u8 0, pint .u8 0, pint .u8 0, pint .u8 0, pint .u8 0, pint .u8 0, pint .u8 0, pint .u8 0, pint .u8 0, pint .u8 0, pint .u8 0, pint .u8 0, pint .u8 0, pint .u8 0, pint .u8 0, pint .u8 0] = Z := by rw [hZ]; rfl
  have hZl : Z.length = 16 := by rw [hZ]; rfl
  have hZd : List.drop 16 Z = [] := List.drop_of_length_le (by omega)
  (refine PCalls_f Tryd.func88 rfl Tryd.ntmps88 Tryd.results88 (by simp) fun fin hfin => ?_; have hnm : True := trivial; simp only [ev, simprocAttr])
  repeat' (first
    | (with_reducible apply W_seq_k; intro nx hnx)
    | (with_reducible first | refine wr 29 ?_)
    | ((with_reducible first | (apply WL_op; intro nx hnx) | refine Ev_out ?_ | refine wc ?_ | (refine pf hnm fun nm hnm => ?_; try simp only [fmb] at hnm) | (refine pm hnm fun nm hnm => ?_; try simp only [fmb] at hnm)); try (simp (maxSteps := 2000000) (disch := omega) only [ev, ↓evp, PV.cells, PV.one, PV.mem?, Value.cells, simprocAttr, hnm, Tryd.tf0, Tryd.tf3, Tryd.tf4, Tryd.tf5, Tryd.tf9, Tryd.tf37]))
    | ((with_reducible first | apply W_block | apply W_scope | apply WL_nil | apply W_label | apply W_skip | apply W_exit | apply W_ret) <;> try simp only [kks, simprocAttr])
    | (with_reducible apply pg <;> (intro hc; (try simp only [hcb, simprocAttr, ne_eq, forall_const] at hc); first | (exfalso; omega) | exact absurd trivial hc | skip))
    | (with_reducible apply hnx; clear hnx nx)
    | (with_reducible refine And.intro (by omega) ?_)
    | (with_reducible refine And.intro ?_ ?_)
    | (clear hnx nx; with_reducible apply hnx; clear hnx nx)
    | (clear hnx nx; clear hnx nx; with_reducible apply hnx; clear hnx nx))
  obtain ⟨NB, hNB⟩ : ∃ N, N = nm := ⟨_, rfl⟩
  subst hNB
  obtain ⟨NA, hNA⟩ : ∃ N, N = nm := ⟨_, rfl⟩
  subst hNA
  refine W_loop_k (fun z τ => ∃ i : Nat, i ≤ 16 ∧ z = 16 - i ∧
      τ = ⟨fr 15 [(4, pint .i64 i), (0, pstr s), (3, .ptr NB 0), (2, .ptr NA 0)], [(NB, ⟨37, false, 0, dgC s i⟩), (NA, ⟨37, false, 0, Z⟩)]⟩) 16
    ⟨fr 15 [(4, pint .i64 (0 : Nat)), (0, pstr s), (3, .ptr NB 0), (2, .ptr NA 0)], [(NB, ⟨37, false, 0, dgC s 0⟩), (NA, ⟨37, false, 0, Z⟩)]⟩ (by
    rw [dgC_zero, ← hZ, ← hZ2]
    refine Wk_fr (by simp only [wkb, simprocAttr]) ?_
    exact Sub_refl (by simp [names, hnm])) ⟨0, by omega, by omega, rfl⟩ ?_
  rintro z τ ⟨i, hi, rfl, rfl⟩ lp hlp
  have hl := dgC_len hs hi
  by_cases hlt : i < 16
  · obtain ⟨x, hg⟩ : ∃ x, s[i]? = some x := ⟨_, List.getElem?_eq_getElem (show i < s.length by omega)⟩
    have hg2 : s[i]'(by omega) = x := by
      rw [List.getElem?_eq_getElem (by omega)] at hg
      exact Option.some.inj hg
    have hset := dgC_put hs hlt
    repeat' (first
    | (with_reducible apply W_seq_k; intro nx hnx)
    | (with_reducible first | refine wr 29 ?_)
    | ((with_reducible first | (apply WL_op; intro nx hnx) | refine Ev_out ?_ | refine wc ?_ | (refine pf hnm fun nm hnm => ?_; try simp only [fmb] at hnm) | (refine pm hnm fun nm hnm => ?_; try simp only [fmb] at hnm)); try (simp (maxSteps := 2000000) (disch := omega) only [ev, ↓evp, PV.cells, PV.one, PV.mem?, Value.cells, simprocAttr, hnm, Tryd.tf0, Tryd.tf3, Tryd.tf4, Tryd.tf5, Tryd.tf9, Tryd.tf37, hl, hg, hg2, hset]))
    | ((with_reducible first | apply W_block | apply W_scope | apply WL_nil | apply W_label | apply W_skip | apply W_exit | apply W_ret) <;> try simp only [kks, simprocAttr])
    | (with_reducible apply pg <;> (intro hc; (try simp only [hcb, simprocAttr, ne_eq, forall_const] at hc); first | (exfalso; omega) | exact absurd trivial hc | skip))
    | (with_reducible apply hnx; clear hnx nx)
    | (with_reducible refine And.intro (by omega) ?_)
    | (with_reducible refine And.intro ?_ ?_)
    | (clear hnx nx; with_reducible apply hnx; clear hnx nx)
    | (clear hnx nx; clear hnx nx; with_reducible apply hnx; clear hnx nx))
    all_goals first
      | exact rfl
      | (exfalso
         omega)
      | (refine hlp _ (16 - (i + 1)) _ (by omega) ?_ ⟨i + 1, by omega, rfl, rfl⟩
         refine Wk_fr (by simp only [wkb, simprocAttr]) ?_
         exact Sub_refl (by simp [names, hnm]))
  · obtain rfl : i = 16 := by omega
    have hfl := dgC_full hs
    have hol : (s.take 16).length = 16 := by rw [List.length_take]; omega
    rw [hfl] at hl ⊢
    generalize s.take 16 = f at *
    have hone := all_one_byte f
    have htk : List.take 16 (f.map pbyte) = f.map pbyte := List.take_of_length_le (by omega)
    repeat' (first
    | (with_reducible apply W_seq_k; intro nx hnx)
    | (with_reducible first | refine wr 29 ?_)
    | ((with_reducible first | (apply WL_op; intro nx hnx) | refine Ev_out ?_ | refine wc ?_ | (refine pf hnm fun nm hnm => ?_; try simp only [fmb] at hnm) | (refine pm hnm fun nm hnm => ?_; try simp only [fmb] at hnm)); try (simp (maxSteps := 2000000) (disch := omega) only [ev, ↓evp, PV.cells, PV.one, PV.mem?, Value.cells, simprocAttr, hnm, Tryd.tf0, Tryd.tf3, Tryd.tf4, Tryd.tf5, Tryd.tf9, Tryd.tf37, hl, hone, htk, hZl, hZd, hol]))
    | ((with_reducible first | apply W_block | apply W_scope | apply WL_nil | apply W_label | apply W_skip | apply W_exit | apply W_ret) <;> try simp only [kks, simprocAttr])
    | (with_reducible apply pg <;> (intro hc; (try simp only [hcb, simprocAttr, ne_eq, forall_const] at hc); first | (exfalso; omega) | exact absurd trivial hc | skip))
    | (with_reducible apply hnx; clear hnx nx)
    | (with_reducible refine And.intro (by omega) ?_)
    | (with_reducible refine And.intro ?_ ?_)
    | (clear hnx nx; with_reducible apply hnx; clear hnx nx)
    | (clear hnx nx; clear hnx nx; with_reducible apply hnx; clear hnx nx))
    all_goals first
      | exact rfl
      | (exfalso
         omega)
      | (refine hfin _ _ ?_
         exact Fin_dig (n := NA) (by simp only [fr_getD_cons, Nat.reduceEqDiff, Nat.reduceLT, ↓reduceIte]) (by simp [look, hnm]) hol ⟨rfl, rfl⟩)
set_option maxRecDepth 100000 in
set_option maxHeartbeats 8000000 in
theorem rstart_c (G : Globs) (hG : G 1 = .iptr (KS.map pw) 0) (seed : List UInt8) (hs : seed.length ≤ 4000) (i c : Int) (hi : inR i) (hc : inR c) : PCalls Tryd.prog G 76 [pstr seed, pint .i64 i, pint .i64 c] [] (fun res H => res = .agg ((startF seed i c).map pbyte) ∧ H = []) := by
  have hv : ∀ n ∈ [i, c], inR n := by
    intro n hn
    rcases List.mem_cons.1 hn with rfl | hn
    · exact hi
    · rw [List.mem_singleton.1 hn]
      exact hc
  have c1 := rints2_c G [i, c] hv (by simp)
  simp only [List.map_cons, List.map_nil] at c1
  have hel := encI_len hv (by simp)
  have hm := mac_len seed (99 :: 104 :: 97 :: 105 :: 110 :: encI [i, c])
  have c2 := rmac_c G hG seed (99 :: 104 :: 97 :: 105 :: 110 :: encI [i, c]) (by omega) (by simp; omega)
  have c3 := digest_c G (mac seed (99 :: 104 :: 97 :: 105 :: 110 :: encI [i, c])) (by omega) (by omega)
  have hsl := startF_len seed i c
  rw [show (mac seed (99 :: 104 :: 97 :: 105 :: 110 :: encI [i, c])).take 16 = startF seed i c from rfl] at c3
  generalize startF seed i c = f at *
  generalize encI [i, c] = e at *
  generalize mac seed (99 :: 104 :: 97 :: 105 :: 110 :: e) = m at *
  have hone := all_one_byte f
  have hl : (f.map pbyte).length = 16 := by rw [List.length_map, hsl]
  have t3 : List.take 16 (f.map pbyte) = f.map pbyte := List.take_of_length_le (by omega)
  (refine PCalls_f Tryd.func76 rfl Tryd.ntmps76 Tryd.results76 (by simp) fun fin hfin => ?_; have hnm : True := trivial; simp only [ev, simprocAttr])
  repeat' (first
    | (with_reducible apply W_seq_k; intro nx hnx)
    | (with_reducible first | refine wr 71 ?_)
    | (with_reducible refine WL_born (by simp) rfl (by simp) ?_; simp only [elemsOf, nl, bir, simprocAttr])
    | (with_reducible refine WL_bornH (by simp) (by simp) ?_ ?_ ?_; (· simp [frz, frz1, hnm]); (· simp [frz1, hnm, PV.one, Value.oneCell']); simp only [elemsOf, nl, bir, simprocAttr])
    | ((with_reducible first | (apply WL_op; intro nx hnx) | refine Ev_out ?_ | refine wc ?_ | (refine pf hnm fun nm hnm => ?_; try simp only [fmb] at hnm) | (refine pborn_im ?_; simp only [elemsOf, nl, bir, simprocAttr])); try (simp (maxSteps := 2000000) (disch := omega) only [ev, ↓evp, PV.cells, PV.one, PV.mem?, Value.cells, simprocAttr, hnm, Tryd.tf0, Tryd.tf2, Tryd.tf3, Tryd.tf5, Tryd.tf9, Tryd.tf22, Tryd.tf37, Tryd.call87, Tryd.call88, Tryd.call89, hone, hl, t3]))
    | ((with_reducible first | apply W_block | apply W_scope | apply WL_nil | apply W_label | apply W_skip | apply W_exit | apply W_ret) <;> try simp only [kks, simprocAttr])
    | (with_reducible apply hnx; clear hnx nx)
    | (with_reducible refine And.intro (by omega) ?_)
    | (with_reducible refine And.intro ?_ ?_)
    | (with_reducible refine pe (c1) ?_)
    | (with_reducible refine pe (c2) ?_)
    | (with_reducible refine pe (c3) ?_)
    | (clear hnx nx; with_reducible apply hnx; clear hnx nx)
    | (clear hnx nx; clear hnx nx; with_reducible apply hnx; clear hnx nx))
  all_goals first
    | exact rfl
    | (refine hfin _ _ ?_
       exact Fin_dig (n := nm) (by simp only [fr_getD_cons, Nat.reduceEqDiff, Nat.reduceLT, ↓reduceIte]) (by simp [look, hnm]) hsl ⟨rfl, rfl⟩)
set_option maxRecDepth 100000 in
set_option maxHeartbeats 8000000 in
theorem radv_c (G : Globs) (hG : G 1 = .iptr (KS.map pw) 0) (i c t0 to : Int) (v0 : List UInt8) (hi : inR i) (hc : inR c) (h1 : 0 ≤ t0) (h2 : t0 ≤ 100) (h3 : 0 ≤ to) (h4 : to ≤ 100) (hv0 : v0.length = 16) :
    PCalls Tryd.prog G 75 [pint .i64 i, pint .i64 c, pint .i64 t0, pint .i64 to, .agg (v0.map pbyte)] [] (fun res H => res = .agg ((advF i c t0 (to - t0).toNat v0).map pbyte) ∧ H = []) := by
  have hFl := advF_len i c (to - t0).toNat t0 v0 hv0
  generalize hF : advF i c t0 (to - t0).toNat v0 = F at *
  have hl0 : (v0.map pbyte).length = 16 := by rw [List.length_map, hv0]
  have ho0 := all_one_byte v0
  obtain ⟨Z, hZ⟩ : ∃ Z, Z = List.replicate 16 (pint .u8 0) := ⟨_, rfl⟩
  have hZ2 : [pint .u8 0, pint .u8 0, pint .u8 0, pint .u8 0, pint .u8 0, pint .u8 0, pint .u8 0, pint .u8 0, pint .u8 0, pint .u8 0, pint .u8 0, pint .u8 0, pint .u8 0, pint .u8 0, pint .u8 0, pint .u8 0] = Z := by rw [hZ]; rfl
  have hZl : Z.length = 16 := by rw [hZ]; rfl
  have hZd : List.drop 16 Z = [] := List.drop_of_length_le (by omega)
  (refine PCalls_f Tryd.func75 rfl Tryd.ntmps75 Tryd.results75 (by simp) fun fin hfin => ?_; have hnm : True := trivial; simp only [ev, simprocAttr])
  repeat' (first
    | (with_reducible apply W_seq_k; intro nx hnx)
    | (with_reducible first | refine wr 3615 ?_ | refine wd (id := 4) 3615 2 (.op 0 true (.op 1 true (.op 2 true (.op 5 true (.op 3 true (.op 4 true (.op 6 false (.op 7 false (.op 8 false (.op 9 false (.done))))))))))) (by kernel_rfl) ?_)
    | ((with_reducible first | (apply WL_op; intro nx hnx) | refine Ev_out ?_ | refine wc ?_ | (apply popsD_op; intro nx hnx) | (refine popsD_alt ?_ ?_; intro nx hnx) | (refine pf hnm fun nm hnm => ?_; try simp only [fmb] at hnm) | (refine pm hnm fun nm hnm => ?_; try simp only [fmb] at hnm)); try (simp (maxSteps := 2000000) (disch := omega) only [ev, ↓evp, PV.cells, PV.one, PV.mem?, Value.cells, simprocAttr, hnm, Tryd.tf0, Tryd.tf2, Tryd.tf3, Tryd.tf4, Tryd.tf5, Tryd.tf9, Tryd.tf22, Tryd.tf24, Tryd.tf37, Tryd.call53, Tryd.call74, Tryd.call87, hl0, ho0]))
    | ((with_reducible first | apply W_block | apply W_scope | apply WL_nil | apply W_label | apply W_skip | apply W_exit | apply W_ret | apply popsD_done | exact popsD_stop) <;> try simp only [kks, simprocAttr])
    | (with_reducible apply pg <;> (intro hc; (try simp only [hcb, simprocAttr, ne_eq, forall_const] at hc); first | (exfalso; omega) | exact absurd trivial hc | skip))
    | (with_reducible apply hnx; clear hnx nx)
    | (with_reducible refine And.intro (by omega) ?_)
    | (with_reducible refine And.intro ?_ ?_)
    | (clear hnx nx; with_reducible apply hnx; clear hnx nx)
    | (clear hnx nx; clear hnx nx; with_reducible apply hnx; clear hnx nx))
  obtain ⟨NB, hNB⟩ : ∃ N, N = nm := ⟨_, rfl⟩
  subst hNB
  obtain ⟨NA, hNA⟩ : ∃ N, N = nm := ⟨_, rfl⟩
  subst hNA
  refine W_loop_k (fun z τ => ∃ (t : Int) (v : List UInt8), 0 ≤ t ∧ t ≤ 100 ∧ z = (to - t).toNat ∧ v.length = 16 ∧ advF i c t (to - t).toNat v = F ∧
      τ = ⟨fr 28 [(11, pint .i64 t), (0, pint .i64 i), (1, pint .i64 c), (3, pint .i64 to), (9, .ptr NA 0), (10, .ptr NB 0)], [(NB, ⟨37, false, 0, Z⟩), (NA, ⟨37, false, 0, v.map pbyte⟩)]⟩) (to - t0).toNat
    ⟨fr 28 [(11, pint .i64 t0), (0, pint .i64 i), (1, pint .i64 c), (3, pint .i64 to), (9, .ptr NA 0), (10, .ptr NB 0)], [(NB, ⟨37, false, 0, Z⟩), (NA, ⟨37, false, 0, v0.map pbyte⟩)]⟩ (by
    rw [← hZ2]
    refine Wk_fr (by simp only [wkb, simprocAttr]) ?_
    exact Sub_refl (by simp [names, hnm])) ⟨t0, v0, h1, h2, rfl, hv0, hF, rfl⟩ ?_
  clear hF hl0 ho0 hv0
  rintro z τ ⟨t, v, t1, t2, rfl, hv, hF, rfl⟩ lp hlp
  have hl := hv
  rw [← List.length_map (f := pbyte)] at hl
  have ho := all_one_byte v
  have htk : List.take 16 (v.map pbyte) = v.map pbyte := List.take_of_length_le (by omega)
  have hdr : List.drop 16 (v.map pbyte) = [] := List.drop_of_length_le (by omega)
  by_cases hlt : t < to
  · rw [advF_lt i c v hlt] at hF
    have c1 := rints2_c G [i, c, t] (inR3 hi hc ⟨by omega, by omega⟩) (by simp)
    have hel := encI_len (inR3 hi hc (show inR t from ⟨by omega, by omega⟩)) (by simp)
    have c2 := rof_c G hG 8 [encI [i, c, t], v] (all_lt2 (by omega) (by omega)) (by simp)
    have hsl := stepC_len i c t v
    rw [show ofH 8 [encI [i, c, t], v] = stepC i c t v from rfl] at c2
    simp only [List.map_cons, List.map_nil] at c1 c2
    generalize stepC i c t v = s at *
    generalize encI [i, c, t] = e at *
    have b1 := isByte_pb v
    have b2 := unb_pb v
    have hsl2 : (s.map pbyte).length = 16 := by rw [List.length_map, hsl]
    have hso := all_one_byte s
    have hst : List.take 16 (s.map pbyte) = s.map pbyte := List.take_of_length_le (by omega)
    repeat' (first
    | (with_reducible apply W_seq_k; intro nx hnx)
    | (with_reducible first | refine wr 3615 ?_ | refine wd (id := 4) 3615 2 (.op 0 true (.op 1 true (.op 2 true (.op 5 true (.op 3 true (.op 4 true (.op 6 false (.op 7 false (.op 8 false (.op 9 false (.done))))))))))) (by kernel_rfl) ?_)
    | (with_reducible refine WL_born (by simp) rfl (by simp) ?_; simp only [elemsOf, nl, bir, simprocAttr])
    | (with_reducible refine WL_bornH (by simp) (by simp) ?_ ?_ ?_; (· simp [frz, frz1, hnm]); (· simp [frz1, hnm, PV.one, Value.oneCell']); simp only [elemsOf, nl, bir, simprocAttr])
    | ((with_reducible first | (apply WL_op; intro nx hnx) | refine Ev_out ?_ | refine wc ?_ | (apply popsD_op; intro nx hnx) | (refine popsD_alt ?_ ?_; intro nx hnx) | (refine pf hnm fun nm hnm => ?_; try simp only [fmb] at hnm) | (refine pborn_im ?_; simp only [elemsOf, nl, bir, simprocAttr])); try (simp (maxSteps := 2000000) (disch := omega) only [ev, ↓evp, PV.cells, PV.one, PV.mem?, Value.cells, simprocAttr, hnm, Tryd.tf0, Tryd.tf2, Tryd.tf3, Tryd.tf4, Tryd.tf5, Tryd.tf9, Tryd.tf22, Tryd.tf24, Tryd.tf37, Tryd.call53, Tryd.call74, Tryd.call87, hlt, hl, ho, htk, hdr, b1, b2, hsl2, hso, hst]))
    | ((with_reducible first | apply W_block | apply W_scope | apply WL_nil | apply W_label | apply W_skip | apply W_exit | apply W_ret | apply popsD_done | exact popsD_stop) <;> try simp only [kks, simprocAttr])
    | (with_reducible apply pg <;> (intro hc; (try simp only [hcb, simprocAttr, ne_eq, forall_const] at hc); first | (exfalso; omega) | exact absurd trivial hc | skip))
    | (with_reducible apply hnx; clear hnx nx)
    | (with_reducible refine And.intro (by omega) ?_)
    | (with_reducible refine And.intro ?_ ?_)
    | (with_reducible refine pe (c1) ?_)
    | (with_reducible refine pe (c2) ?_)
    | (with_reducible refine pe (text_c G v hv) ?_)
    | (clear hnx nx; with_reducible apply hnx; clear hnx nx)
    | (clear hnx nx; clear hnx nx; with_reducible apply hnx; clear hnx nx))
    all_goals first
      | exact rfl
      | (exfalso
         omega)
      | (refine hlp _ (to - (t + 1)).toNat _ (by omega) ?_ ⟨t + 1, s, by omega, by omega, rfl, hsl, hF, rfl⟩
         refine Wk_fr (by simp only [wkb, simprocAttr]) ?_
         exact Sub_refl (by simp [names, hnm]))
  · rw [advF_ge i c v hlt] at hF
    subst hF
    repeat' (first
    | (with_reducible apply W_seq_k; intro nx hnx)
    | (with_reducible first | refine wr 3615 ?_ | refine wd (id := 4) 3615 2 (.op 0 true (.op 1 true (.op 2 true (.op 5 true (.op 3 true (.op 4 true (.op 6 false (.op 7 false (.op 8 false (.op 9 false (.done))))))))))) (by kernel_rfl) ?_)
    | ((with_reducible first | (apply WL_op; intro nx hnx) | refine Ev_out ?_ | refine wc ?_ | (apply popsD_op; intro nx hnx) | (refine popsD_alt ?_ ?_; intro nx hnx) | (refine pf hnm fun nm hnm => ?_; try simp only [fmb] at hnm) | (refine pm hnm fun nm hnm => ?_; try simp only [fmb] at hnm)); try (simp (maxSteps := 2000000) (disch := omega) only [ev, ↓evp, PV.cells, PV.one, PV.mem?, Value.cells, simprocAttr, hnm, Tryd.tf0, Tryd.tf2, Tryd.tf3, Tryd.tf4, Tryd.tf5, Tryd.tf9, Tryd.tf22, Tryd.tf24, Tryd.tf37, Tryd.call53, Tryd.call74, Tryd.call87, hlt, hl, ho, htk, hdr, hZl, hZd]))
    | ((with_reducible first | apply W_block | apply W_scope | apply WL_nil | apply W_label | apply W_skip | apply W_exit | apply W_ret | apply popsD_done | exact popsD_stop) <;> try simp only [kks, simprocAttr])
    | (with_reducible apply pg <;> (intro hc; (try simp only [hcb, simprocAttr, ne_eq, forall_const] at hc); first | (exfalso; omega) | exact absurd trivial hc | skip))
    | (with_reducible apply hnx; clear hnx nx)
    | (with_reducible refine And.intro (by omega) ?_)
    | (with_reducible refine And.intro ?_ ?_)
    | (clear hnx nx; with_reducible apply hnx; clear hnx nx)
    | (clear hnx nx; clear hnx nx; with_reducible apply hnx; clear hnx nx))
    all_goals first
      | exact rfl
      | (exfalso
         omega)
      | (refine hfin _ _ ?_
         exact Fin_dig (n := NB) (by simp only [fr_getD_cons, Nat.reduceEqDiff, Nat.reduceLT, ↓reduceIte]) (by simp [look, hnm]) hFl ⟨rfl, rfl⟩)
end Go.PM

namespace Go.PM
open Go.Proofs
attribute [local irreducible] W PCalls pcall pcallI WL
/-- A digit of a digest. -/
def dig (d : List UInt8) (i : Nat) : Nat := (d.getD (i / 4) 0).toNat / 4 ^ (3 - i % 4) % 4
theorem dig_lt (d : List UInt8) (i : Nat) : dig d i < 4 := Nat.mod_lt _ (by omega)
/-- The checksum of the first digits. -/
def sumD (d : List UInt8) : Nat → Nat
  | 0 => 0
  | i + 1 => sumD d i + (3 - dig d i)
theorem sumD_le (d : List UInt8) : ∀ i, sumD d i ≤ 3 * i
  | 0 => Nat.le_refl _
  | i + 1 => by
    have := sumD_le d i
    simp only [sumD]
    omega
/-- The cells of the digits, in part filled. -/
def gC (d : List UInt8) (i : Nat) : List PV := (List.range i).map (fun j => pint .i64 (dig d j : Nat)) ++ List.replicate (68 - i) (pint .i64 0)
theorem gC_len {d : List UInt8} {i : Nat} (h : i ≤ 68) : (gC d i).length = 68 := by
  simp only [gC, List.length_append, List.length_map, List.length_range, List.length_replicate]
  omega
theorem gC_zero (d : List UInt8) : gC d 0 = List.replicate 68 (pint .i64 0) := rfl
theorem gC_put {d : List UInt8} {i : Nat} (h : i < 68) : List.take i (gC d i) ++ [pint .i64 (dig d i : Nat)] ++ List.drop (i + 1) (gC d i) = gC d (i + 1) := by
  obtain ⟨m, hm⟩ : ∃ m, 68 - i = m + 1 := ⟨68 - i - 1, by omega⟩
  have hl : ((List.range i).map (fun j => pint .i64 (dig d j : Nat))).length = i := by simp
  rw [gC, gC, hm, show 68 - (i + 1) = m by omega, List.take_append_of_le_length (by omega), List.take_of_length_le (by omega), List.drop_append, hl, List.drop_of_length_le (by omega), show i + 1 - i = 1 by omega, List.replicate_succ]
  simp [List.range_succ]
theorem gC_get {d : List UInt8} {i : Nat} (h : i < 68) : (gC d (i + 1))[i]? = some (pint .i64 (dig d i : Nat)) := by
  rw [gC, List.getElem?_append_left (by simp)]
  simp
theorem dig_op : ∀ (r : _root_.Fin 4) (x : _root_.Fin 256), (IntKind.i64.wrap (((x.val : Nat) : Int).fdiv (2 ^ min (6 - 2 * r.val) IntKind.u8.bits))).tmod 4 = ((x.val / 4 ^ (3 - r.val) % 4 : Nat) : Int) := by decide +kernel
/-- The digits of the checksum. -/
def chk (s : Nat) : List Nat := [s / 64 % 4, s / 16 % 4, s / 4 % 4, s % 4]
/-- The digits of a digest and of its checksum. -/
def digF (d : List UInt8) : List Nat := (List.range 64).map (dig d) ++ chk (sumD d 64)
def pn' (n : Nat) : PV := pint .i64 n
/-- The cells of the checksum's digits, in part filled. -/
def tlC (s k : Nat) : List PV := [pn' (if k ≤ 0 then s / 64 % 4 else 0), pn' (if k ≤ 1 then s / 16 % 4 else 0), pn' (if k ≤ 2 then s / 4 % 4 else 0), pn' (if k ≤ 3 then s % 4 else 0)]
def hC (d : List UInt8) (s k : Nat) : List PV := (List.range 64).map (fun j => pint .i64 (dig d j : Nat)) ++ tlC s k
theorem hC_len (d : List UInt8) (s k : Nat) : (hC d s k).length = 68 := by simp [hC, tlC]
theorem hC_four (d : List UInt8) (s : Nat) : gC d 64 = hC d s 4 := by
  simp [gC, hC, tlC, pn', List.replicate_succ]
theorem hC_zero (d : List UInt8) : hC d (sumD d 64) 0 = (digF d).map pn' := by
  simp [hC, digF, tlC, chk, pn']
theorem hC_put {d : List UInt8} {s k : Nat} (h : k < 4) : List.take (64 + k) (hC d s (k + 1)) ++ [pint .i64 (s / 4 ^ (3 - k) % 4 : Nat)] ++ List.drop (64 + k + 1) (hC d s (k + 1)) = hC d s k := by
  have hl : ((List.range 64).map (fun j => pint .i64 (dig d j : Nat))).length = 64 := by simp
  unfold hC
  generalize (List.range 64).map (fun j => pint .i64 (dig d j : Nat)) = D at *
  rw [List.take_append, List.drop_append, hl, List.take_of_length_le (by omega), List.drop_of_length_le (by omega)]
  have : k = 0 ∨ k = 1 ∨ k = 2 ∨ k = 3 := by omega
  rcases this with rfl | rfl | rfl | rfl <;> simp [tlC, pn']
attribute [local irreducible] gC hC
set_option maxRecDepth 100000 in
set_option maxHeartbeats 8000000 in
theorem dig_r (G : Globs) (d : List UInt8) (hd : d.length = 16) : PCalls Tryd.prog G 43 [.agg (d.map pbyte)] [] (fun res H => ∃ N, res = .sub N 1 0 68 ∧ H = [(N, ⟨121, false, 0, (digF d).map pn'⟩)]) := by
  have hl0 : (d.map pbyte).length = 16 := by rw [List.length_map, hd]
  have ho0 := all_one_byte d
  (refine PCalls_f Tryd.func43 rfl Tryd.ntmps43 Tryd.results43 (by simp) fun fin hfin => ?_; have hnm : True := trivial; simp only [ev, simprocAttr])
  repeat' (first
    | (with_reducible apply W_seq_k; intro nx hnx)
    | (with_reducible first | refine wr 255 ?_)
    | ((with_reducible first | (apply WL_op; intro nx hnx) | refine Ev_out ?_ | refine wc ?_ | (refine pf hnm fun nm hnm => ?_; try simp only [fmb] at hnm) | (refine pm hnm fun nm hnm => ?_; try simp only [fmb] at hnm)); try (simp (maxSteps := 2000000) (disch := omega) only [ev, ↓evp, PV.cells, PV.one, PV.mem?, Value.cells, simprocAttr, hnm, Tryd.tf0, Tryd.tf3, Tryd.tf4, Tryd.tf5, Tryd.tf22, Tryd.tf37, Tryd.tf121, hl0, ho0]))
    | ((with_reducible first | apply W_block | apply W_scope | apply WL_nil | apply W_label | apply W_skip | apply W_exit | apply W_ret) <;> try simp only [kks, simprocAttr])
    | (with_reducible apply pg <;> (intro hc; (try simp only [hcb, simprocAttr, ne_eq, forall_const] at hc); first | (exfalso; omega) | exact absurd trivial hc | skip))
    | (with_reducible apply hnx; clear hnx nx)
    | (with_reducible refine And.intro (by omega) ?_)
    | (with_reducible refine And.intro ?_ ?_)
    | (clear hnx nx; with_reducible apply hnx; clear hnx nx)
    | (clear hnx nx; clear hnx nx; with_reducible apply hnx; clear hnx nx))
  obtain ⟨NB, hNB⟩ : ∃ N, N = nm := ⟨_, rfl⟩
  subst hNB
  obtain ⟨NA, hNA⟩ : ∃ N, N = nm := ⟨_, rfl⟩
  subst hNA
  refine W_loop_k (fun z τ => ∃ i : Nat, i ≤ 64 ∧ z = 64 - i ∧
      τ = ⟨fr 41 [(7, pint .i64 i), (4, pint .i64 (sumD d i : Nat)), (3, .ptr NB 0), (1, .ptr NA 0)], [(NB, ⟨121, false, 0, gC d i⟩), (NA, ⟨37, false, 0, d.map pbyte⟩)]⟩) 64
    ⟨fr 41 [(7, pint .i64 (0 : Nat)), (4, pint .i64 (0 : Nat)), (3, .ptr NB 0), (1, .ptr NA 0)], [(NB, ⟨121, false, 0, gC d 0⟩), (NA, ⟨37, false, 0, d.map pbyte⟩)]⟩ (by
    rw [gC_zero]
    refine Wk_fr (by simp only [wkb, simprocAttr]) ?_
    exact Sub_refl (by simp [names, hnm])) ⟨0, by omega, by omega, rfl⟩ ?_
  rintro z τ ⟨i, hi, rfl, rfl⟩ lp hlp
  have hl := gC_len (d := d) (show i ≤ 68 by omega)
  by_cases hlt : i < 64
  · have e1 : Int.tdiv (i : Int) 4 = ((i / 4 : Nat) : Int) := by
      rw [Int.tdiv_eq_ediv_of_nonneg (by omega)]
      omega
    have e2 : Int.tmod (i : Int) 4 = ((i % 4 : Nat) : Int) := by
      rw [Int.tmod_eq_emod_of_nonneg (by omega)]
      omega
    have hs := sumD_le d i
    obtain ⟨x, hg⟩ : ∃ x, d[i / 4]? = some x := ⟨_, List.getElem?_eq_getElem (show i / 4 < d.length by omega)⟩
    have hx := x.toNat_lt
    have e3 : 6 - 2 * ((i % 4 : Nat) : Int) = ((6 - 2 * (i % 4) : Nat) : Int) := by omega
    have hdi : dig d i = x.toNat / 4 ^ (3 - i % 4) % 4 := by rw [dig, List.getD_eq_getElem?_getD, hg]; rfl
    have e4 : (IntKind.i64.wrap (((x.toNat : Nat) : Int).fdiv (2 ^ min (6 - 2 * (i % 4)) IntKind.u8.bits))).tmod 4 = ((dig d i : Nat) : Int) := by
      rw [hdi]
      exact dig_op ⟨i % 4, Nat.mod_lt _ (by omega)⟩ ⟨x.toNat, by omega⟩
    have e5 := gC_put (d := d) (show i < 68 by omega)
    have e6 := gC_get (d := d) (show i < 68 by omega)
    have hl2 := gC_len (d := d) (show i + 1 ≤ 68 by omega)
    have hdl := dig_lt d i
    have e7 : sumD d (i + 1) = sumD d i + (3 - dig d i) := rfl
    have e8 : ((sumD d i : Nat) : Int) + (3 - ((dig d i : Nat) : Int)) = ((sumD d (i + 1) : Nat) : Int) := by omega
    repeat' (first
    | (with_reducible apply W_seq_k; intro nx hnx)
    | (with_reducible first | refine wr 255 ?_)
    | ((with_reducible first | (apply WL_op; intro nx hnx) | refine Ev_out ?_ | refine wc ?_ | (refine pf hnm fun nm hnm => ?_; try simp only [fmb] at hnm) | (refine pm hnm fun nm hnm => ?_; try simp only [fmb] at hnm)); try (simp (maxSteps := 2000000) (disch := omega) only [ev, ↓evp, PV.cells, PV.one, PV.mem?, Value.cells, simprocAttr, hnm, Tryd.tf0, Tryd.tf3, Tryd.tf4, Tryd.tf5, Tryd.tf22, Tryd.tf37, Tryd.tf121, hl, hl2, e1, e2, e3, e4, e5, e6, e8, hg, Option.map_some]))
    | ((with_reducible first | apply W_block | apply W_scope | apply WL_nil | apply W_label | apply W_skip | apply W_exit | apply W_ret) <;> try simp only [kks, simprocAttr])
    | (with_reducible apply pg <;> (intro hc; (try simp only [hcb, simprocAttr, ne_eq, forall_const] at hc); first | (exfalso; omega) | exact absurd trivial hc | skip))
    | (with_reducible apply hnx; clear hnx nx)
    | (with_reducible refine And.intro (by omega) ?_)
    | (with_reducible refine And.intro ?_ ?_)
    | (clear hnx nx; with_reducible apply hnx; clear hnx nx)
    | (clear hnx nx; clear hnx nx; with_reducible apply hnx; clear hnx nx))
    all_goals first
      | exact rfl
      | (exfalso
         omega)
      | (refine hlp _ (64 - (i + 1)) _ (by omega) ?_ ⟨i + 1, by omega, rfl, rfl⟩
         refine Wk_fr (by simp only [wkb, simprocAttr]) ?_
         exact Sub_refl (by simp [names, hnm]))
  · obtain rfl : i = 64 := by omega
    have hs := sumD_le d 64
    have hz := hC_zero d
    generalize digF d = F at *
    rw [hC_four d (sumD d 64)] at hl ⊢
    generalize sumD d 64 = S at *
    repeat' (first
    | (with_reducible apply W_seq_k; intro nx hnx)
    | (with_reducible first | refine wr 255 ?_)
    | ((with_reducible first | (apply WL_op; intro nx hnx) | refine Ev_out ?_ | refine wc ?_ | (refine pf hnm fun nm hnm => ?_; try simp only [fmb] at hnm) | (refine pm hnm fun nm hnm => ?_; try simp only [fmb] at hnm)); try (simp (maxSteps := 2000000) (disch := omega) only [ev, ↓evp, PV.cells, PV.one, PV.mem?, Value.cells, simprocAttr, hnm, Tryd.tf0, Tryd.tf3, Tryd.tf4, Tryd.tf5, Tryd.tf22, Tryd.tf37, Tryd.tf121, hl]))
    | ((with_reducible first | apply W_block | apply W_scope | apply WL_nil | apply W_label | apply W_skip | apply W_exit | apply W_ret) <;> try simp only [kks, simprocAttr])
    | (with_reducible apply pg <;> (intro hc; (try simp only [hcb, simprocAttr, ne_eq, forall_const] at hc); first | (exfalso; omega) | exact absurd trivial hc | skip))
    | (with_reducible apply hnx; clear hnx nx)
    | (with_reducible refine And.intro (by omega) ?_)
    | (with_reducible refine And.intro ?_ ?_)
    | (clear hnx nx; with_reducible apply hnx; clear hnx nx)
    | (clear hnx nx; clear hnx nx; with_reducible apply hnx; clear hnx nx))
    refine W_loop_k (fun z τ => ∃ k : Nat, k ≤ 4 ∧ z = k ∧
        τ = ⟨fr 41 [(6, pint .i64 (63 + k : Nat)), (4, pint .i64 (S / 4 ^ (4 - k) : Nat)), (3, .ptr NB 0)], [(NB, ⟨121, false, 0, hC d S k⟩)]⟩) 4
      ⟨fr 41 [(6, pint .i64 67), (4, pint .i64 (S : Nat)), (3, .ptr NB 0)], [(NB, ⟨121, false, 0, hC d S 4⟩)]⟩ (by
      refine Wk_fr (by simp only [wkb, simprocAttr]) ?_
      exact ⟨by simp, by simp [names, hnm]⟩) ⟨4, by omega, by omega, by
        rw [show S / 4 ^ (4 - 4) = S by simp]
        rfl⟩ ?_
    rintro z τ ⟨k, hk, rfl, rfl⟩ lp2 hlp2
    have hl3 := hC_len d S z
    by_cases hk0 : 0 < z
    · obtain ⟨k, rfl⟩ : ∃ k, z = k + 1 := ⟨z - 1, by omega⟩
      obtain ⟨q, hq⟩ : ∃ q, q = S / 4 ^ (4 - (k + 1)) := ⟨_, rfl⟩
      have hsm : q ≤ S := by rw [hq]; exact Nat.div_le_self _ _
      have hq1 : S / 4 ^ (4 - k) = q / 4 := by rw [hq, Nat.div_div_eq_div_mul, ← Nat.pow_succ, show (4 - (k + 1)).succ = 4 - k by omega]
      have hq2 : S / 4 ^ (3 - k) = q := by rw [hq, show 4 - (k + 1) = 3 - k by omega]
      have e1 : Int.tdiv (q : Int) 4 = ((S / 4 ^ (4 - k) : Nat) : Int) := by
        rw [Int.tdiv_eq_ediv_of_nonneg (Int.natCast_nonneg _), hq1]
        omega
      have e2 : Int.tmod (q : Int) 4 = ((S / 4 ^ (3 - k) % 4 : Nat) : Int) := by
        rw [Int.tmod_eq_emod_of_nonneg (Int.natCast_nonneg _), hq2]
        omega
      rw [← hq]
      have e5 := hC_put (d := d) (s := S) (show k < 4 by omega)
      rw [show 64 + k = 63 + (k + 1) by omega] at e5
      have e9 : (63 : Int) + ((k : Int) + 1) - 1 = 63 + (k : Int) := by omega
      repeat' (first
    | (with_reducible apply W_seq_k; intro nx hnx)
    | (with_reducible first | refine wr 255 ?_)
    | ((with_reducible first | (apply WL_op; intro nx hnx) | refine Ev_out ?_ | refine wc ?_ | (refine pf hnm fun nm hnm => ?_; try simp only [fmb] at hnm) | (refine pm hnm fun nm hnm => ?_; try simp only [fmb] at hnm)); try (simp (maxSteps := 2000000) (disch := omega) only [ev, ↓evp, PV.cells, PV.one, PV.mem?, Value.cells, simprocAttr, hnm, Tryd.tf0, Tryd.tf3, Tryd.tf4, Tryd.tf5, Tryd.tf22, Tryd.tf37, Tryd.tf121, hl3, e1, e2, e5]))
    | ((with_reducible first | apply W_block | apply W_scope | apply WL_nil | apply W_label | apply W_skip | apply W_exit | apply W_ret) <;> try simp only [kks, simprocAttr])
    | (with_reducible apply pg <;> (intro hc; (try simp only [hcb, simprocAttr, ne_eq, forall_const] at hc); first | (exfalso; omega) | exact absurd trivial hc | skip))
    | (with_reducible apply hnx; clear hnx nx)
    | (with_reducible refine And.intro (by omega) ?_)
    | (with_reducible refine And.intro ?_ ?_)
    | (clear hnx nx; with_reducible apply hnx; clear hnx nx)
    | (clear hnx nx; clear hnx nx; with_reducible apply hnx; clear hnx nx))
      all_goals first
        | exact rfl
        | (exfalso
           omega)
        | (refine hlp2 _ k _ (by omega) ?_ ⟨k, by omega, rfl, rfl⟩
           refine Wk_fr (by simp only [wkb, simprocAttr, e9]) ?_
           exact ⟨by simp, by simp [names]⟩)
    · obtain rfl : z = 0 := by omega
      rw [hz] at hl3 ⊢
      repeat' (first
    | (with_reducible apply W_seq_k; intro nx hnx)
    | (with_reducible first | refine wr 255 ?_)
    | ((with_reducible first | (apply WL_op; intro nx hnx) | refine Ev_out ?_ | refine wc ?_ | (refine pf hnm fun nm hnm => ?_; try simp only [fmb] at hnm) | (refine pm hnm fun nm hnm => ?_; try simp only [fmb] at hnm)); try (simp (maxSteps := 2000000) (disch := omega) only [ev, ↓evp, PV.cells, PV.one, PV.mem?, Value.cells, simprocAttr, hnm, Tryd.tf0, Tryd.tf3, Tryd.tf4, Tryd.tf5, Tryd.tf22, Tryd.tf37, Tryd.tf121, hl3]))
    | ((with_reducible first | apply W_block | apply W_scope | apply WL_nil | apply W_label | apply W_skip | apply W_exit | apply W_ret) <;> try simp only [kks, simprocAttr])
    | (with_reducible apply pg <;> (intro hc; (try simp only [hcb, simprocAttr, ne_eq, forall_const] at hc); first | (exfalso; omega) | exact absurd trivial hc | skip))
    | (with_reducible apply hnx; clear hnx nx)
    | (with_reducible refine And.intro (by omega) ?_)
    | (with_reducible refine And.intro ?_ ?_)
    | (clear hnx nx; with_reducible apply hnx; clear hnx nx)
    | (clear hnx nx; clear hnx nx; with_reducible apply hnx; clear hnx nx))
      all_goals first
        | exact rfl
        | (exfalso
           omega)
        | (refine hfin _ _ (Fin_ret1 rfl (Sub_refl (by simp [names])) ?_); simp only [cob, simprocAttr]
           exact ⟨_, rfl, rfl⟩)
end Go.PM

namespace Go.PM
open Go.Proofs
attribute [local irreducible] W PCalls pcall pcallI WL
theorem digF_len (d : List UInt8) : (digF d).length = 68 := by simp [digF, chk]
theorem dig_c (G : Globs) (d : List UInt8) (hd : d.length = 16) : PCalls Tryd.prog G 43 [.agg (d.map pbyte)] [] (fun res H => res = .list 1 ((digF d).map pn') ∧ H = []) := by
  have hl := digF_len d
  refine (dig_r G d hd).px fun res H h => ?_
  obtain ⟨N, rfl, rfl⟩ := h
  refine ⟨_, _, Px.freeze (.sub N 1 0 68) _ N (o := ⟨121, false, 0, (digF d).map pn'⟩) (by simp [look]) (by simp [frzOk, del]), ?_, ?_⟩
  · have : List.take 68 ((digF d).map pn') = (digF d).map pn' := List.take_of_length_le (by rw [List.length_map]; omega)
    simp [PM.frz, frz1, elemsOf, hl, this]
  · simp [frzH, del]
/-- The first digits, as cells. -/
def preG (d : List UInt8) (n : Nat) : List PV := (List.range n).map fun j => pint .i64 (dig d j : Nat)
theorem preG_len (d : List UInt8) (n : Nat) : (preG d n).length = n := by simp [preG]
theorem preG_zero (d : List UInt8) : preG d 0 = [] := rfl
theorem preG_succ (d : List UInt8) (n : Nat) : preG d (n + 1) = preG d n ++ [pint .i64 (dig d n : Nat)] := by
  simp [preG, List.range_succ]
theorem preG_all (d : List UInt8) : preG d 64 ++ [pint .i64 (sumD d 64 / 64 % 4 : Nat), pint .i64 (sumD d 64 / 16 % 4 : Nat), pint .i64 (sumD d 64 / 4 % 4 : Nat), pint .i64 (sumD d 64 % 4 : Nat)] = (digF d).map pn' := by
  simp [preG, digF, chk, pn']
theorem dig4 (d : List UInt8) (i k : Nat) (x : UInt8) (h : d[i]? = some x) (hk : k < 4) : dig d (4 * i + k) = x.toNat / 4 ^ (3 - k) % 4 := by
  rw [dig, show (4 * i + k) / 4 = i by omega, show (4 * i + k) % 4 = k by omega, List.getD_eq_getElem?_getD, h]
  rfl
theorem dq_op : ∀ x : _root_.Fin 256, IntKind.i64.wrap ((x.val : Nat) : Int) = ((x.val : Nat) : Int) ∧ IntKind.i64.wrap (Int.tdiv ((x.val : Nat) : Int) 64) = ((x.val / 4 ^ 3 % 4 : Nat) : Int) ∧ (IntKind.i64.wrap (Int.tdiv ((x.val : Nat) : Int) 16)).tmod 4 = ((x.val / 4 ^ 2 % 4 : Nat) : Int) ∧
    (IntKind.i64.wrap (Int.tdiv ((x.val : Nat) : Int) 4)).tmod 4 = ((x.val / 4 ^ 1 % 4 : Nat) : Int) ∧ ((x.val : Nat) : Int).tmod 4 = ((x.val / 4 ^ 0 % 4 : Nat) : Int) := by decide +kernel
attribute [local irreducible] preG
set_option maxRecDepth 100000 in
set_option maxHeartbeats 8000000 in
theorem rdig_r (G : Globs) (d : List UInt8) (hd : d.length = 16) : PCalls Tryd.prog G 72 [.agg (d.map pbyte)] [] (fun res H => ∃ N, res = .row N 1 68 ∧ H = [(N, ⟨3, true, 1, (digF d).map pn'⟩)]) := by
  have hl0 : (d.map pbyte).length = 16 := by rw [List.length_map, hd]
  have ho0 := all_one_byte d
  (refine PCalls_f Tryd.func72 rfl Tryd.ntmps72 Tryd.results72 (by simp) fun fin hfin => ?_; have hnm : True := trivial; simp only [ev, simprocAttr])
  repeat' (first
    | (with_reducible apply W_seq_k; intro nx hnx)
    | (with_reducible first | refine wr 511 ?_)
    | ((with_reducible first | (apply WL_op; intro nx hnx) | refine Ev_out ?_ | refine wc ?_ | (refine pf hnm fun nm hnm => ?_; try simp only [fmb] at hnm) | (refine pm hnm fun nm hnm => ?_; try simp only [fmb] at hnm)); try (simp (maxSteps := 2000000) (disch := omega) only [ev, ↓evp, PV.cells, PV.one, PV.mem?, Value.cells, simprocAttr, hnm, Tryd.tf0, Tryd.tf1, Tryd.tf3, Tryd.tf4, Tryd.tf5, Tryd.tf22, Tryd.tf37, hl0, ho0]))
    | ((with_reducible first | apply W_block | apply W_scope | apply WL_nil | apply W_label | apply W_skip | apply W_exit | apply W_ret) <;> try simp only [kks, simprocAttr])
    | (with_reducible apply pg <;> (intro hc; (try simp only [hcb, simprocAttr, ne_eq, forall_const] at hc); first | (exfalso; omega) | exact absurd trivial hc | skip))
    | (with_reducible apply hnx; clear hnx nx)
    | (with_reducible refine And.intro (by omega) ?_)
    | (with_reducible refine And.intro ?_ ?_)
    | (clear hnx nx; with_reducible apply hnx; clear hnx nx)
    | (clear hnx nx; clear hnx nx; with_reducible apply hnx; clear hnx nx))
  refine W_adopt_f 3 3 1 (by simp only [fr_getD_cons, Nat.reduceEqDiff, Nat.reduceLT, ↓reduceIte]) fun D0 hD0 => ?_
  obtain ⟨N1, hN1⟩ : ∃ N, N = nm := ⟨_, rfl⟩
  subst hN1
  have hD : ¬ D0 = N1 := by simpa [names] using hD0
  refine W_loop_k (fun z τ => ∃ (i : Nat) (N : Int), i ≤ 16 ∧ z = 16 - i ∧ ¬ N = N1 ∧
      τ = ⟨fr 59 [(3, .row N 1 (4 * i)), (4, pint .i64 (sumD d (4 * i) : Nat)), (5, pint .i64 i), (1, .ptr N1 0)], [(N, ⟨3, true, 1, preG d (4 * i)⟩), (N1, ⟨37, false, 0, d.map pbyte⟩)]⟩) 16
    ⟨fr 59 [(3, .row D0 1 0), (4, pint .i64 (0 : Nat)), (5, pint .i64 (0 : Nat)), (1, .ptr N1 0)], [(D0, ⟨3, true, 1, []⟩), (N1, ⟨37, false, 0, d.map pbyte⟩)]⟩ (by
    refine Wk_fr (by simp only [wkb, simprocAttr]) ?_
    exact ⟨by simp, by simpa [names] using hD⟩) ⟨0, D0, by omega, by omega, hD, by rw [Nat.mul_zero, preG_zero]; rfl⟩ ?_
  rintro z τ ⟨i, N, hi, rfl, hN, rfl⟩ lp hlp
  clear hnm
  have hnm : ¬ N = N1 ∧ ¬ N1 = N := ⟨hN, fun e => hN e.symm⟩
  have hs0 := sumD_le d (4 * i)
  have hpl0 := preG_len d (4 * i)
  by_cases hik : i < 16
  · obtain ⟨x, hg⟩ : ∃ x, d[i]? = some x := ⟨_, List.getElem?_eq_getElem (show i < d.length by omega)⟩
    have hx := x.toNat_lt
    obtain ⟨hw, q0, q1, q2, q3⟩ := dq_op ⟨x.toNat, by omega⟩
    simp only at hw q0 q1 q2 q3
    rw [← dig4 d i 0 x hg (by omega)] at q0
    rw [← dig4 d i 1 x hg (by omega)] at q1
    rw [← dig4 d i 2 x hg (by omega)] at q2
    rw [← dig4 d i 3 x hg (by omega)] at q3
    clear hx
    repeat' (first
    | (with_reducible apply W_seq_k; intro nx hnx)
    | (with_reducible first | refine wr 511 ?_)
    | ((with_reducible first | (apply WL_op; intro nx hnx) | refine Ev_out ?_ | refine wc ?_ | (refine pf hnm fun nm hnm => ?_; try simp only [fmb] at hnm) | (refine pm hnm fun nm hnm => ?_; try simp only [fmb] at hnm)); try (simp (maxSteps := 2000000) (disch := omega) only [ev, ↓evp, PV.cells, PV.one, PV.mem?, Value.cells, simprocAttr, hnm, Tryd.tf0, Tryd.tf1, Tryd.tf3, Tryd.tf4, Tryd.tf5, Tryd.tf22, Tryd.tf37, hl0, hg, Option.map_some, hw, q0, q1, q2, q3, hpl0]))
    | ((with_reducible first | apply W_block | apply W_scope | apply WL_nil | apply W_label | apply W_skip | apply W_exit | apply W_ret) <;> try simp only [kks, simprocAttr])
    | (with_reducible apply pg <;> (intro hc; (try simp only [hcb, simprocAttr, ne_eq, forall_const] at hc); first | (exfalso; omega) | exact absurd trivial hc | skip))
    | (with_reducible apply hnx; clear hnx nx)
    | (with_reducible refine And.intro (by omega) ?_)
    | (with_reducible refine And.intro ?_ ?_)
    | (clear hnx nx; with_reducible apply hnx; clear hnx nx)
    | (clear hnx nx; clear hnx nx; with_reducible apply hnx; clear hnx nx))
    all_goals first
      | exact rfl
      | (exfalso
         omega)
      | skip
    obtain ⟨M, hM⟩ : ∃ M, M = nm := ⟨_, rfl⟩
    subst hM
    have hMn : ¬ M = N1 := by simp [hnm]
    obtain ⟨L, hL⟩ : ∃ L, L = [pint .i64 (dig d (4 * i + 0) : Nat), pint .i64 (dig d (4 * i + 1) : Nat), pint .i64 (dig d (4 * i + 2) : Nat), pint .i64 (dig d (4 * i + 3) : Nat)] := ⟨_, rfl⟩
    have hLl : L.length = 4 := by rw [hL]; rfl
    have hLg : ∀ k, k < 4 → L[k]? = some (pint .i64 (dig d (4 * i + k) : Nat)) := by
      intro k hk
      have : k = 0 ∨ k = 1 ∨ k = 2 ∨ k = 3 := by omega
      rcases this with rfl | rfl | rfl | rfl <;> rw [hL] <;> rfl
    refine W_loop_k (fun z τ => ∃ (k : Nat) (N : Int), k ≤ 4 ∧ z = 4 - k ∧ ¬ N = N1 ∧ ¬ N = M ∧
        τ = ⟨fr 59 [(3, .row N 1 (4 * i + k)), (4, pint .i64 (sumD d (4 * i + k) : Nat)), (5, pint .i64 i), (1, .ptr N1 0), (7, .row M 1 4), (8, pint .i64 k)], [(M, ⟨3, true, 1, L⟩), (N, ⟨3, true, 1, preG d (4 * i + k)⟩), (N1, ⟨37, false, 0, d.map pbyte⟩)]⟩) 4
      ⟨fr 59 [(3, .row N 1 (4 * i)), (4, pint .i64 (sumD d (4 * i) : Nat)), (5, pint .i64 i), (1, .ptr N1 0), (7, .row M 1 4), (8, pint .i64 (0 : Nat))], [(M, ⟨3, true, 1, L⟩), (N, ⟨3, true, 1, preG d (4 * i)⟩), (N1, ⟨37, false, 0, d.map pbyte⟩)]⟩ (by
      rw [hL]
      refine Wk_fr (by simp only [wkb, simprocAttr]) ?_
      exact Sub_refl (by simp [names, hnm])) ⟨0, N, by omega, by omega, hN, by simp [hnm], rfl⟩ ?_
    rintro z τ ⟨k, N', hk, rfl, hN', hNM, rfl⟩ lp2 hlp2
    clear hnm
    have hnm : (¬ N' = N1 ∧ ¬ N1 = N') ∧ (¬ N' = M ∧ ¬ M = N') ∧ ¬ M = N1 ∧ ¬ N1 = M := ⟨⟨hN', fun e => hN' e.symm⟩, ⟨hNM, fun e => hNM e.symm⟩, hMn, fun e => hMn e.symm⟩
    have hs1 := sumD_le d (4 * i + k)
    have hpl := preG_len d (4 * i + k)
    by_cases hkk : k < 4
    · have hLk := hLg k hkk
      have hdl := dig_lt d (4 * i + k)
      have e7 : sumD d (4 * i + (k + 1)) = sumD d (4 * i + k) + (3 - dig d (4 * i + k)) := rfl
      have e8 : ((sumD d (4 * i + k) : Nat) : Int) + 3 - ((dig d (4 * i + k) : Nat) : Int) = ((sumD d (4 * i + (k + 1)) : Nat) : Int) := by omega
      have e9 := preG_succ d (4 * i + k)
      repeat' (first
    | (with_reducible apply W_seq_k; intro nx hnx)
    | (with_reducible first | refine wr 511 ?_)
    | ((with_reducible first | (apply WL_op; intro nx hnx) | refine Ev_out ?_ | refine wc ?_ | (refine pf hnm fun nm hnm => ?_; try simp only [fmb] at hnm) | (refine pm hnm fun nm hnm => ?_; try simp only [fmb] at hnm)); try (simp (maxSteps := 2000000) (disch := omega) only [ev, ↓evp, PV.cells, PV.one, PV.mem?, Value.cells, simprocAttr, hnm, Tryd.tf0, Tryd.tf1, Tryd.tf3, Tryd.tf4, Tryd.tf5, Tryd.tf22, Tryd.tf37, hLl, hLk, hpl, e8]))
    | ((with_reducible first | apply W_block | apply W_scope | apply WL_nil | apply W_label | apply W_skip | apply W_exit | apply W_ret) <;> try simp only [kks, simprocAttr])
    | (with_reducible apply pg <;> (intro hc; (try simp only [hcb, simprocAttr, ne_eq, forall_const] at hc); first | (exfalso; omega) | exact absurd trivial hc | skip))
    | (with_reducible apply hnx; clear hnx nx)
    | (with_reducible refine And.intro (by omega) ?_)
    | (with_reducible refine And.intro ?_ ?_)
    | (clear hnx nx; with_reducible apply hnx; clear hnx nx)
    | (clear hnx nx; clear hnx nx; with_reducible apply hnx; clear hnx nx))
      all_goals first
        | exact rfl
        | (exfalso
           omega)
        | (refine hlp2 _ (4 - (k + 1)) _ (by omega) ?_ ⟨k + 1, nm, by omega, rfl, by simp [hnm], by simp [hnm], rfl⟩
           rw [← Nat.add_assoc, e9]
           refine Wk_fr (by simp only [wkb, simprocAttr]) ?_
           exact ⟨by simp, by simp [names, hnm]⟩)
    · obtain rfl : k = 4 := by omega
      repeat' (first
    | (with_reducible apply W_seq_k; intro nx hnx)
    | (with_reducible first | refine wr 511 ?_)
    | ((with_reducible first | (apply WL_op; intro nx hnx) | refine Ev_out ?_ | refine wc ?_ | (refine pf hnm fun nm hnm => ?_; try simp only [fmb] at hnm) | (refine pm hnm fun nm hnm => ?_; try simp only [fmb] at hnm)); try (simp (maxSteps := 2000000) (disch := omega) only [ev, ↓evp, PV.cells, PV.one, PV.mem?, Value.cells, simprocAttr, hnm, Tryd.tf0, Tryd.tf1, Tryd.tf3, Tryd.tf4, Tryd.tf5, Tryd.tf22, Tryd.tf37, hpl, hLl]))
    | ((with_reducible first | apply W_block | apply W_scope | apply WL_nil | apply W_label | apply W_skip | apply W_exit | apply W_ret) <;> try simp only [kks, simprocAttr])
    | (with_reducible apply pg <;> (intro hc; (try simp only [hcb, simprocAttr, ne_eq, forall_const] at hc); first | (exfalso; omega) | exact absurd trivial hc | skip))
    | (with_reducible apply hnx; clear hnx nx)
    | (with_reducible refine And.intro (by omega) ?_)
    | (with_reducible refine And.intro ?_ ?_)
    | (clear hnx nx; with_reducible apply hnx; clear hnx nx)
    | (clear hnx nx; clear hnx nx; with_reducible apply hnx; clear hnx nx))
      all_goals first
        | exact rfl
        | (exfalso
           omega)
        | (refine hlp _ (16 - (i + 1)) _ (by omega) ?_ ⟨i + 1, N', by omega, rfl, hN', rfl⟩
           rw [show 4 * (i + 1) = 4 * i + 4 by omega]
           refine Wk_fr (by simp only [wkb, simprocAttr]) ?_
           exact ⟨by simp, by simp [names, hnm]⟩)
  · obtain rfl : i = 16 := by omega
    have hall := preG_all d
    have hs := sumD_le d 64
    simp only [show 4 * 16 = 64 from rfl] at *
    generalize digF d = F at *
    generalize sumD d 64 = S at *
    obtain ⟨r4, r0, r1, r2, r3⟩ := dq_op ⟨S, by omega⟩
    simp only [Nat.reducePow, Nat.div_one] at r4 r0 r1 r2 r3
    repeat' (first
    | (with_reducible apply W_seq_k; intro nx hnx)
    | (with_reducible first | refine wr 511 ?_)
    | ((with_reducible first | (apply WL_op; intro nx hnx) | refine Ev_out ?_ | refine wc ?_ | (refine pf hnm fun nm hnm => ?_; try simp only [fmb] at hnm) | (refine pm hnm fun nm hnm => ?_; try simp only [fmb] at hnm)); try (simp (maxSteps := 2000000) (disch := omega) only [ev, ↓evp, PV.cells, PV.one, PV.mem?, Value.cells, simprocAttr, hnm, Tryd.tf0, Tryd.tf1, Tryd.tf3, Tryd.tf4, Tryd.tf5, Tryd.tf22, Tryd.tf37, hpl0, r0, r1, r2, r3]))
    | ((with_reducible first | apply W_block | apply W_scope | apply WL_nil | apply W_label | apply W_skip | apply W_exit | apply W_ret) <;> try simp only [kks, simprocAttr])
    | (with_reducible apply pg <;> (intro hc; (try simp only [hcb, simprocAttr, ne_eq, forall_const] at hc); first | (exfalso; omega) | exact absurd trivial hc | skip))
    | (with_reducible apply hnx; clear hnx nx)
    | (with_reducible refine And.intro (by omega) ?_)
    | (with_reducible refine And.intro ?_ ?_)
    | (clear hnx nx; with_reducible apply hnx; clear hnx nx)
    | (clear hnx nx; clear hnx nx; with_reducible apply hnx; clear hnx nx))
    all_goals first
      | exact rfl
      | (exfalso
         omega)
      | (refine hfin _ _ (Fin_ret1 rfl ((show Sub [(nm, ⟨3, true, 1, F.map pn'⟩)] _ from ⟨by simp [← hall], by simp [names, hnm]⟩)) ?_); simp only [cob, simprocAttr]
         refine ⟨nm, ?_, ?_⟩
         · rfl
         · rfl)
end Go.PM

namespace Go.PM
open Go.Proofs
attribute [local irreducible] W PCalls pcall pcallI WL
theorem rdig_c (G : Globs) (d : List UInt8) (hd : d.length = 16) : PCalls Tryd.prog G 72 [.agg (d.map pbyte)] [] (fun res H => res = .list 1 ((digF d).map pn') ∧ H = []) :=
  (rdig_r G d hd).frz_row (xs := (digF d).map pn') fun res H h => by
    obtain ⟨N, h1, h2⟩ := h
    exact ⟨N, 3, by rw [List.length_map, digF_len]; exact h1, h2⟩
/-- What is signed. -/
def digestF (p : List UInt8) (i : Int) (m : List UInt8) : List UInt8 := ofH 3 [p, intB i, m]
theorem digestF_len (p : List UInt8) (i : Int) (m : List UInt8) : (digestF p i m).length = 16 := ofH_len _ _
theorem all_lt3 {p : List UInt8 → Prop} {a b c : List UInt8} (h1 : p a) (h2 : p b) (h3 : p c) : ∀ x ∈ [a, b, c], p x := by
  intro x hx
  rcases List.mem_cons.1 hx with rfl | hx
  · exact h1
  · exact all_lt2 h2 h3 x hx
set_option maxRecDepth 100000 in
set_option maxHeartbeats 8000000 in
theorem hdig_c (G : Globs) (hG : G 0 = .iptr (KS.map pw) 0) (p : List UInt8) (i : Int) (m : List UInt8) (hp : p.length = 16) (hi : inR i) (hm : m.length ≤ 4000) :
    PCalls Tryd.prog G 44 [.agg (p.map pbyte), pint .i64 i, pstr m] [] (fun res H => res = .agg ((digestF p i m).map pbyte) ∧ H = []) := by
  have h9 := intB_len9 hi
  have hl1 : (p.map pbyte).length = 16 := by rw [List.length_map, hp]
  have o1 := all_one_byte p
  have t1 : List.take 16 (p.map pbyte) = p.map pbyte := List.take_of_length_le (by omega)
  have a1 := isByte_pb p
  have a2 := unb_pb p
  have b1 := isByte_pb (intB i)
  have b2 := unb_pb (intB i)
  have c1 := wint_c G i hi.1 hi.2
  have c := hof_c G hG 3 [p, intB i, m] (all_lt3 (by omega) (by omega) hm) (by simp)
  simp only [List.map_cons, List.map_nil] at c
  have hn : ofH 3 [p, intB i, m] = digestF p i m := rfl
  have hol := digestF_len p i m
  rw [hn] at c
  generalize digestF p i m = f at *
  generalize intB i = e at *
  have hone := all_one_byte f
  have hol2 : (f.map pbyte).length = 16 := by rw [List.length_map, hol]
  have t3 : List.take 16 (f.map pbyte) = f.map pbyte := List.take_of_length_le (by omega)
  (refine PCalls_f Tryd.func44 rfl Tryd.ntmps44 Tryd.results44 (by simp) fun fin hfin => ?_; have hnm : True := trivial; simp only [ev, simprocAttr])
  repeat' (first
    | (with_reducible apply W_seq_k; intro nx hnx)
    | (with_reducible first | refine wr 79 ?_ | refine wd (id := 1) 79 3 (.op 0 true (.op 1 true (.op 2 true (.op 5 true (.op 3 true (.op 4 true (.op 6 false (.op 7 false (.op 8 false (.done)))))))))) (by kernel_rfl) ?_)
    | (with_reducible refine WL_born (by simp) rfl (by simp) ?_; simp only [elemsOf, nl, bir, simprocAttr])
    | (with_reducible refine WL_bornH (by simp) (by simp) ?_ ?_ ?_; (· simp [frz, frz1, hnm]); (· simp [frz1, hnm, PV.one, Value.oneCell']); simp only [elemsOf, nl, bir, simprocAttr])
    | ((with_reducible first | (apply WL_op; intro nx hnx) | refine Ev_out ?_ | refine wc ?_ | (apply popsD_op; intro nx hnx) | (refine popsD_alt ?_ ?_; intro nx hnx) | (refine pf hnm fun nm hnm => ?_; try simp only [fmb] at hnm) | (refine pborn_im ?_; simp only [elemsOf, nl, bir, simprocAttr])); try (simp (maxSteps := 2000000) (disch := omega) only [ev, ↓evp, PV.cells, PV.one, PV.mem?, Value.cells, simprocAttr, hnm, Tryd.tf0, Tryd.tf3, Tryd.tf5, Tryd.tf9, Tryd.tf24, Tryd.tf27, Tryd.tf37, Tryd.call14, Tryd.call23, hl1, o1, t1, a1, a2, b1, b2, hol2, hone, t3]))
    | ((with_reducible first | apply W_block | apply W_scope | apply WL_nil | apply W_label | apply W_skip | apply W_exit | apply W_ret | apply popsD_done | exact popsD_stop) <;> try simp only [kks, simprocAttr])
    | (with_reducible apply hnx; clear hnx nx)
    | (with_reducible refine And.intro (by omega) ?_)
    | (with_reducible refine And.intro ?_ ?_)
    | (with_reducible refine pe (c1) ?_)
    | (with_reducible refine pe (c) ?_)
    | (clear hnx nx; with_reducible apply hnx; clear hnx nx)
    | (clear hnx nx; clear hnx nx; with_reducible apply hnx; clear hnx nx))
  all_goals first
    | exact rfl
    | (refine hfin _ _ ?_
       exact Fin_dig (n := nm) (by simp only [fr_getD_cons, Nat.reduceEqDiff, Nat.reduceLT, ↓reduceIte]) (by simp [look, hnm]) hol ⟨rfl, rfl⟩)
set_option maxRecDepth 100000 in
set_option maxHeartbeats 8000000 in
theorem rhdig_c (G : Globs) (hG : G 1 = .iptr (KS.map pw) 0) (p : List UInt8) (i : Int) (m : List UInt8) (hp : p.length = 16) (hi : inR i) (hm : m.length ≤ 4000) :
    PCalls Tryd.prog G 73 [.agg (p.map pbyte), pint .i64 i, pstr m] [] (fun res H => res = .agg ((digestF p i m).map pbyte) ∧ H = []) := by
  have h9 := intB_len9 hi
  have hl1 : (p.map pbyte).length = 16 := by rw [List.length_map, hp]
  have o1 := all_one_byte p
  have t1 : List.take 16 (p.map pbyte) = p.map pbyte := List.take_of_length_le (by omega)
  have b1 := isByte_pb (intB i)
  have b2 := unb_pb (intB i)
  have c1 := rint_c G i hi.1 hi.2
  have c := rof_c G hG 3 [p, intB i, m] (all_lt3 (by omega) (by omega) hm) (by simp)
  simp only [List.map_cons, List.map_nil] at c
  have hn : ofH 3 [p, intB i, m] = digestF p i m := rfl
  have hol := digestF_len p i m
  rw [hn] at c
  generalize digestF p i m = f at *
  generalize intB i = e at *
  have hone := all_one_byte f
  have hol2 : (f.map pbyte).length = 16 := by rw [List.length_map, hol]
  have t3 : List.take 16 (f.map pbyte) = f.map pbyte := List.take_of_length_le (by omega)
  (refine PCalls_f Tryd.func73 rfl Tryd.ntmps73 Tryd.results73 (by simp) fun fin hfin => ?_; have hnm : True := trivial; simp only [ev, simprocAttr])
  repeat' (first
    | (with_reducible apply W_seq_k; intro nx hnx)
    | (with_reducible first | refine wr 79 ?_)
    | (with_reducible refine WL_born (by simp) rfl (by simp) ?_; simp only [elemsOf, nl, bir, simprocAttr])
    | (with_reducible refine WL_bornH (by simp) (by simp) ?_ ?_ ?_; (· simp [frz, frz1, hnm]); (· simp [frz1, hnm, PV.one, Value.oneCell']); simp only [elemsOf, nl, bir, simprocAttr])
    | ((with_reducible first | (apply WL_op; intro nx hnx) | refine Ev_out ?_ | refine wc ?_ | (refine pf hnm fun nm hnm => ?_; try simp only [fmb] at hnm) | (refine pborn_im ?_; simp only [elemsOf, nl, bir, simprocAttr])); try (simp (maxSteps := 2000000) (disch := omega) only [ev, ↓evp, PV.cells, PV.one, PV.mem?, Value.cells, simprocAttr, hnm, Tryd.tf0, Tryd.tf3, Tryd.tf5, Tryd.tf9, Tryd.tf24, Tryd.tf27, Tryd.tf37, Tryd.call51, Tryd.call53, Tryd.call74, hl1, o1, t1, b1, b2, hol2, hone, t3]))
    | ((with_reducible first | apply W_block | apply W_scope | apply WL_nil | apply W_label | apply W_skip | apply W_exit | apply W_ret) <;> try simp only [kks, simprocAttr])
    | (with_reducible apply hnx; clear hnx nx)
    | (with_reducible refine And.intro (by omega) ?_)
    | (with_reducible refine And.intro ?_ ?_)
    | (with_reducible refine pe (c1) ?_)
    | (with_reducible refine pe (c) ?_)
    | (with_reducible refine pe (text_c G p hp) ?_)
    | (clear hnx nx; with_reducible apply hnx; clear hnx nx)
    | (clear hnx nx; clear hnx nx; with_reducible apply hnx; clear hnx nx))
  all_goals first
    | exact rfl
    | (refine hfin _ _ ?_
       exact Fin_dig (n := nm) (by simp only [fr_getD_cons, Nat.reduceEqDiff, Nat.reduceLT, ↓reduceIte]) (by simp [look, hnm]) hol ⟨rfl, rfl⟩)
end Go.PM

namespace Go.PM
open Go.Proofs
attribute [local irreducible] W PCalls pcall pcallI WL
/-- The values of some chains, one behind the other. -/
def catF (vals : Nat → List UInt8) (n : Nat) : List UInt8 := (List.range n).flatMap vals
theorem catF_zero (vals : Nat → List UInt8) : catF vals 0 = [] := rfl
theorem catF_succ (vals : Nat → List UInt8) (n : Nat) : catF vals (n + 1) = catF vals n ++ vals n := by
  simp [catF, List.range_succ]
theorem catF_len {vals : Nat → List UInt8} (h : ∀ c, (vals c).length = 16) : ∀ n, (catF vals n).length = 16 * n
  | 0 => rfl
  | n + 1 => by rw [catF_succ, List.length_append, catF_len h n, h]; omega
/-- The lowest node for the values of all chains. -/
def leafF (vals : Nat → List UInt8) : List UInt8 := ofH 1 [ofH 9 [catF vals 68]]
theorem leafF_len (vals : Nat → List UInt8) : (leafF vals).length = 16 := ofH_len _ _
/-- The value of a chain at its top. -/
def topF (seed : List UInt8) (i : Int) (c : Nat) : List UInt8 := advF i c 0 (3 - 0 : Int).toNat (startF seed i c)
theorem topF_len (seed : List UInt8) (i : Int) (c : Nat) : (topF seed i c).length = 16 := advF_len _ _ _ _ _ (startF_len _ _ _)
theorem all_lt1 {p : List UInt8 → Prop} {a : List UInt8} (h1 : p a) : ∀ x ∈ [a], p x := by
  intro x hx
  rw [List.mem_singleton.1 hx]
  exact h1
set_option maxRecDepth 100000 in
set_option maxHeartbeats 8000000 in
theorem rleaf_c (G : Globs) (hG : G 1 = .iptr (KS.map pw) 0) (seed : List UInt8) (hs : seed.length ≤ 4000) (i : Int) (hi : inR i) :
    PCalls Tryd.prog G 85 [pstr seed, pint .i64 i] [] (fun res H => res = .agg ((leafF (topF seed i)).map pbyte) ∧ H = []) := by
  have hlen := catF_len (topF_len seed i)
  obtain ⟨Z, hZ⟩ : ∃ Z, Z = List.replicate 16 (pint .u8 0) := ⟨_, rfl⟩
  have hZ2 : [pint .u8 0, pint .u8 0, pint .u8 0, pint .u8 0, pint .u8 0, pint .u8 0, pint .u8 0, pint .u8 0, pint .u8 0, pint .u8 0, pint .u8 0, pint .u8 0, pint .u8 0, pint .u8 0, pint .u8 0, pint .u8 0] = Z := by rw [hZ]; rfl
  have hZl : Z.length = 16 := by rw [hZ]; rfl
  have hZd : List.drop 16 Z = [] := List.drop_of_length_le (by omega)
  (refine PCalls_f Tryd.func85 rfl Tryd.ntmps85 Tryd.results85 (by simp) fun fin hfin => ?_; have hnm : True := trivial; simp only [ev, simprocAttr])
  repeat' (first
    | (with_reducible apply W_seq_k; intro nx hnx)
    | (with_reducible first | refine wr 243 ?_)
    | ((with_reducible first | (apply WL_op; intro nx hnx) | refine Ev_out ?_ | refine wc ?_ | (refine pf hnm fun nm hnm => ?_; try simp only [fmb] at hnm) | (refine pm hnm fun nm hnm => ?_; try simp only [fmb] at hnm)); try (simp (maxSteps := 2000000) (disch := omega) only [ev, ↓evp, PV.cells, PV.one, PV.mem?, Value.cells, simprocAttr, hnm, Tryd.tf0, Tryd.tf1, Tryd.tf3, Tryd.tf4, Tryd.tf5, Tryd.tf9, Tryd.tf24, Tryd.tf37, Tryd.call53, Tryd.call74, Tryd.call75, Tryd.call76]))
    | ((with_reducible first | apply W_block | apply W_scope | apply WL_nil | apply W_label | apply W_skip | apply W_exit | apply W_ret) <;> try simp only [kks, simprocAttr])
    | (with_reducible apply pg <;> (intro hc; (try simp only [hcb, simprocAttr, ne_eq, forall_const] at hc); first | (exfalso; omega) | exact absurd trivial hc | skip))
    | (with_reducible apply hnx; clear hnx nx)
    | (with_reducible refine And.intro (by omega) ?_)
    | (with_reducible refine And.intro ?_ ?_)
    | (clear hnx nx; with_reducible apply hnx; clear hnx nx)
    | (clear hnx nx; clear hnx nx; with_reducible apply hnx; clear hnx nx))
  obtain ⟨NA, hNA⟩ : ∃ N, N = nm := ⟨_, rfl⟩
  subst hNA
  refine W_loop_k (fun z τ => ∃ (c : Nat) (s : List UInt8), c ≤ 68 ∧ z = 68 - c ∧ s = catF (topF seed i) c ∧
      τ = ⟨fr 29 [(5, pstr s), (6, pint .i64 c), (0, pstr seed), (1, pint .i64 i), (4, .ptr NA 0)], [(NA, ⟨37, false, 0, Z⟩)]⟩) 68
    ⟨fr 29 [(5, .val (.string ⟨#[]⟩)), (6, pint .i64 (0 : Nat)), (0, pstr seed), (1, pint .i64 i), (4, .ptr NA 0)], [(NA, ⟨37, false, 0, Z⟩)]⟩ (by
    rw [← hZ2]
    refine Wk_fr (by simp only [wkb, simprocAttr]) ?_
    exact Sub_refl (by simp [names, hnm])) ⟨0, [], by omega, by omega, rfl, rfl⟩ ?_
  rintro z τ ⟨c, s, hc, rfl, hsc, rfl⟩ lp hlp
  have hsl : s.length = 16 * c := by rw [hsc, hlen]
  by_cases hlt : c < 68
  · have hcR : inR (c : Int) := ⟨by omega, by omega⟩
    have c1 := rstart_c G hG seed hs i c hi hcR
    have c2 := radv_c G hG i c 0 3 (startF seed i c) hi hcR (by omega) (by omega) (by omega) (by omega) (startF_len _ _ _)
    have c3 := text_c G (topF seed i c) (topF_len _ _ _)
    have hsu := catF_succ (topF seed i) c
    rw [← hsc] at hsu
    rw [show advF i c 0 (3 - 0 : Int).toNat (startF seed i c) = topF seed i c from rfl] at c2
    obtain ⟨u, hu⟩ : ∃ u, u = s ++ topF seed i c := ⟨_, rfl⟩
    have htl := topF_len seed i c
    have hul : u.length = 16 * (c + 1) := by rw [hu, List.length_append, hsl, htl]; omega
    generalize topF seed i c = t at *
    generalize startF seed i c = v at *
    repeat' (first
    | (with_reducible apply W_seq_k; intro nx hnx)
    | (with_reducible first | refine wr 243 ?_)
    | ((with_reducible first | (apply WL_op; intro nx hnx) | refine Ev_out ?_ | refine wc ?_ | (refine pf hnm fun nm hnm => ?_; try simp only [fmb] at hnm) | (refine pm hnm fun nm hnm => ?_; try simp only [fmb] at hnm)); try (simp (maxSteps := 2000000) (disch := omega) only [ev, ↓evp, PV.cells, PV.one, PV.mem?, Value.cells, simprocAttr, hnm, Tryd.tf0, Tryd.tf1, Tryd.tf3, Tryd.tf4, Tryd.tf5, Tryd.tf9, Tryd.tf24, Tryd.tf37, Tryd.call53, Tryd.call74, Tryd.call75, Tryd.call76, ← hu, hsl, htl, hul]))
    | ((with_reducible first | apply W_block | apply W_scope | apply WL_nil | apply W_label | apply W_skip | apply W_exit | apply W_ret) <;> try simp only [kks, simprocAttr])
    | (with_reducible apply pg <;> (intro hc; (try simp only [hcb, simprocAttr, ne_eq, forall_const] at hc); first | (exfalso; omega) | exact absurd trivial hc | skip))
    | (with_reducible apply hnx; clear hnx nx)
    | (with_reducible refine And.intro (by omega) ?_)
    | (with_reducible refine And.intro ?_ ?_)
    | (with_reducible refine pe (c1) ?_)
    | (with_reducible refine pe (c2) ?_)
    | (with_reducible refine pe (c3) ?_)
    | (clear hnx nx; with_reducible apply hnx; clear hnx nx)
    | (clear hnx nx; clear hnx nx; with_reducible apply hnx; clear hnx nx))
    all_goals first
      | exact rfl
      | (exfalso
         omega)
      | (refine hlp _ (68 - (c + 1)) _ (by omega) ?_ ⟨c + 1, u, by omega, rfl, by rw [hsu, hu], rfl⟩
         refine Wk_fr (by simp only [wkb, simprocAttr]) ?_
         exact Sub_refl (by simp [names, hnm]))
  · obtain rfl : c = 68 := by omega
    have k1 := rof_c G hG 9 [s] (all_lt1 (by omega)) (by simp)
    have k2 := text_c G (ofH 9 [s]) (ofH_len _ _)
    have k3 := rof_c G hG 1 [ofH 9 [s]] (all_lt1 (by rw [ofH_len]; omega)) (by simp)
    have hol := leafF_len (topF seed i)
    rw [show ofH 1 [ofH 9 [s]] = leafF (topF seed i) by rw [hsc]; rfl] at k3
    simp only [List.map_cons, List.map_nil] at k1 k3
    have hql := ofH_len 9 [s]
    generalize leafF (topF seed i) = f at *
    generalize ofH 9 [s] = q at *
    have hone := all_one_byte f
    have hol2 : (f.map pbyte).length = 16 := by rw [List.length_map, hol]
    have t3 : List.take 16 (f.map pbyte) = f.map pbyte := List.take_of_length_le (by omega)
    have hqo := all_one_byte q
    have hq2 : (q.map pbyte).length = 16 := by rw [List.length_map, hql]
    have tq : List.take 16 (q.map pbyte) = q.map pbyte := List.take_of_length_le (by omega)
    repeat' (first
    | (with_reducible apply W_seq_k; intro nx hnx)
    | (with_reducible first | refine wr 243 ?_)
    | (with_reducible refine WL_born (by simp) rfl (by simp) ?_; simp only [elemsOf, nl, bir, simprocAttr])
    | (with_reducible refine WL_bornH (by simp) (by simp) ?_ ?_ ?_; (· simp [frz, frz1, hnm]); (· simp [frz1, hnm, PV.one, Value.oneCell']); simp only [elemsOf, nl, bir, simprocAttr])
    | ((with_reducible first | (apply WL_op; intro nx hnx) | refine Ev_out ?_ | refine wc ?_ | (refine pf hnm fun nm hnm => ?_; try simp only [fmb] at hnm) | (refine pborn_im ?_; simp only [elemsOf, nl, bir, simprocAttr])); try (simp (maxSteps := 2000000) (disch := omega) only [ev, ↓evp, PV.cells, PV.one, PV.mem?, Value.cells, simprocAttr, hnm, Tryd.tf0, Tryd.tf1, Tryd.tf3, Tryd.tf4, Tryd.tf5, Tryd.tf9, Tryd.tf24, Tryd.tf37, Tryd.call53, Tryd.call74, Tryd.call75, Tryd.call76, hone, hol2, t3, hqo, hq2, tq, hZl, hZd]))
    | ((with_reducible first | apply W_block | apply W_scope | apply WL_nil | apply W_label | apply W_skip | apply W_exit | apply W_ret) <;> try simp only [kks, simprocAttr])
    | (with_reducible apply pg <;> (intro hc; (try simp only [hcb, simprocAttr, ne_eq, forall_const] at hc); first | (exfalso; omega) | exact absurd trivial hc | skip))
    | (with_reducible apply hnx; clear hnx nx)
    | (with_reducible refine And.intro (by omega) ?_)
    | (with_reducible refine And.intro ?_ ?_)
    | (with_reducible refine pe (k1) ?_)
    | (with_reducible refine pe (k2) ?_)
    | (with_reducible refine pe (k3) ?_)
    | (clear hnx nx; with_reducible apply hnx; clear hnx nx)
    | (clear hnx nx; clear hnx nx; with_reducible apply hnx; clear hnx nx))
    all_goals first
      | exact rfl
      | (exfalso
         omega)
      | (refine hfin _ _ ?_
         exact Fin_dig (n := NA) (by simp only [fr_getD_cons, Nat.reduceEqDiff, Nat.reduceLT, ↓reduceIte]) (by simp [look, hnm]) hol ⟨rfl, rfl⟩)
end Go.PM

namespace Go.PM
open Go.Proofs
attribute [local irreducible] W PCalls pcall pcallI WL
set_option maxRecDepth 100000
set_option maxHeartbeats 8000000
theorem digest_l (G : Globs) (hG : G 0 = .iptr (KS.map pw) 0) (l : List (List UInt8)) (hl : Small l) : PCalls Tryd.prog G 22 [.list 1 (l.map pstr)] [] (fun res H => res = .agg ((dgL l).map pbyte) ∧ H = []) := by
  have he := enc5 hl.2 (by have := hl.1; omega)
  have hl1 := hl.1
  have c1 := wstrs_c G l (fun s hs => by have := hl.2 s hs; omega) (by omega) (by omega)
  have c2 := hof_c G hG 5 [encL bytesB l] (all_lt1 (by omega)) (by simp)
  have hd : ofH 5 [encL bytesB l] = dgL l := rfl
  have hol := dgL_len l
  rw [hd] at c2
  have hone := all_one_byte (dgL l)
  have hol2 : ((dgL l).map pbyte).length = 16 := by rw [List.length_map, hol]
  have t3 : List.take 16 ((dgL l).map pbyte) = (dgL l).map pbyte := List.take_of_length_le (by omega)
  have a1 := isByte_pb (encL bytesB l)
  have a2 := unb_pb (encL bytesB l)
  simp only [List.map_cons, List.map_nil] at c2
  generalize dgL l = f at *
  generalize encL bytesB l = E at *
  (refine PCalls_f Tryd.func22 rfl Tryd.ntmps22 Tryd.results22 (by simp) fun fin hfin => ?_; have hnm : True := trivial; simp only [ev, simprocAttr])
  repeat' (first
    | (with_reducible apply W_seq_k; intro nx hnx)
    | (with_reducible first | refine wr 5 ?_)
    | (with_reducible refine WL_born (by simp) rfl (by simp) ?_; simp only [elemsOf, nl, bir, simprocAttr])
    | (with_reducible refine WL_bornH (by simp) (by simp) ?_ ?_ ?_; (· simp [frz, frz1, hnm]); (· simp [frz1, hnm, PV.one, Value.oneCell']); simp only [elemsOf, nl, bir, simprocAttr])
    | ((with_reducible first | (apply WL_op; intro nx hnx) | refine Ev_out ?_ | refine wc ?_ | (refine pf hnm fun nm hnm => ?_; try simp only [fmb] at hnm) | (refine pborn_im ?_; simp only [elemsOf, nl, bir, simprocAttr])); try (simp (maxSteps := 2000000) (disch := omega) only [ev, ↓evp, PV.cells, PV.one, PV.mem?, Value.cells, simprocAttr, hnm, Tryd.tf0, Tryd.tf1, Tryd.tf3, Tryd.tf5, Tryd.tf9, Tryd.tf24, Tryd.tf27, Tryd.tf37, Tryd.call14, Tryd.call15, a1, a2, t3, hol2, hone]))
    | ((with_reducible first | apply W_block | apply W_scope | apply WL_nil | apply W_label | apply W_skip | apply W_exit | apply W_ret) <;> try simp only [kks, simprocAttr])
    | (with_reducible apply hnx; clear hnx nx)
    | (with_reducible refine And.intro (by omega) ?_)
    | (with_reducible refine And.intro ?_ ?_)
    | (with_reducible refine pe (c1) ?_)
    | (with_reducible refine pe (c2) ?_)
    | (clear hnx nx; with_reducible apply hnx; clear hnx nx)
    | (clear hnx nx; clear hnx nx; with_reducible apply hnx; clear hnx nx))
  all_goals first
    | exact rfl
    | exact (by kernel_rfl : Tryd.prog.underlying 5 = some (.int .u8))
    | (refine hfin _ _ ?_
       exact Fin_dig (n := nm) (by simp only [fr_getD_cons, Nat.reduceEqDiff, Nat.reduceLT, ↓reduceIte]) (by simp [look, hnm]) hol ⟨rfl, rfl⟩)
theorem rdigest_l (G : Globs) (hG : G 1 = .iptr (KS.map pw) 0) (l : List (List UInt8)) (hl : Small l) : PCalls Tryd.prog G 29 [.list 1 (l.map pstr)] [] (fun res H => res = .agg ((dgL l).map pbyte) ∧ H = []) := by
  have he := enc5 hl.2 (by have := hl.1; omega)
  have hl1 := hl.1
  have c1 := rstrs_c G l (fun s hs => by have := hl.2 s hs; omega) (by omega) (by omega)
  have c2 := rof_c G hG 5 [encL bytesB l] (all_lt1 (by omega)) (by simp)
  have hd : ofH 5 [encL bytesB l] = dgL l := rfl
  have hol := dgL_len l
  rw [hd] at c2
  have hone := all_one_byte (dgL l)
  have hol2 : ((dgL l).map pbyte).length = 16 := by rw [List.length_map, hol]
  have t3 : List.take 16 ((dgL l).map pbyte) = (dgL l).map pbyte := List.take_of_length_le (by omega)
  have a1 := isByte_pb (encL bytesB l)
  have a2 := unb_pb (encL bytesB l)
  simp only [List.map_cons, List.map_nil] at c2
  generalize dgL l = f at *
  generalize encL bytesB l = E at *
  (refine PCalls_f Tryd.func29 rfl Tryd.ntmps29 Tryd.results29 (by simp) fun fin hfin => ?_; have hnm : True := trivial; simp only [ev, simprocAttr])
  repeat' (first
    | (with_reducible apply W_seq_k; intro nx hnx)
    | (with_reducible first | refine wr 5 ?_)
    | (with_reducible refine WL_born (by simp) rfl (by simp) ?_; simp only [elemsOf, nl, bir, simprocAttr])
    | (with_reducible refine WL_bornH (by simp) (by simp) ?_ ?_ ?_; (· simp [frz, frz1, hnm]); (· simp [frz1, hnm, PV.one, Value.oneCell']); simp only [elemsOf, nl, bir, simprocAttr])
    | ((with_reducible first | (apply WL_op; intro nx hnx) | refine Ev_out ?_ | refine wc ?_ | (refine pf hnm fun nm hnm => ?_; try simp only [fmb] at hnm) | (refine pborn_im ?_; simp only [elemsOf, nl, bir, simprocAttr])); try (simp (maxSteps := 2000000) (disch := omega) only [ev, ↓evp, PV.cells, PV.one, PV.mem?, Value.cells, simprocAttr, hnm, Tryd.tf0, Tryd.tf1, Tryd.tf3, Tryd.tf5, Tryd.tf9, Tryd.tf24, Tryd.tf27, Tryd.tf37, Tryd.call52, Tryd.call53, a1, a2, t3, hol2, hone]))
    | ((with_reducible first | apply W_block | apply W_scope | apply WL_nil | apply W_label | apply W_skip | apply W_exit | apply W_ret) <;> try simp only [kks, simprocAttr])
    | (with_reducible apply hnx; clear hnx nx)
    | (with_reducible refine And.intro (by omega) ?_)
    | (with_reducible refine And.intro ?_ ?_)
    | (with_reducible refine pe (c1) ?_)
    | (with_reducible refine pe (c2) ?_)
    | (clear hnx nx; with_reducible apply hnx; clear hnx nx)
    | (clear hnx nx; clear hnx nx; with_reducible apply hnx; clear hnx nx))
  all_goals first
    | exact rfl
    | exact (by kernel_rfl : Tryd.prog.underlying 5 = some (.int .u8))
    | (refine hfin _ _ ?_
       exact Fin_dig (n := nm) (by simp only [fr_getD_cons, Nat.reduceEqDiff, Nat.reduceLT, ↓reduceIte]) (by simp [look, hnm]) hol ⟨rfl, rfl⟩)
end Go.PM

namespace Go.PM
open Go.Proofs
attribute [local irreducible] W PCalls pcall pcallI WL
set_option maxRecDepth 100000
set_option maxHeartbeats 8000000
@[reducible] def pn (k : Nat) : PV := pint .i64 k
theorem take_pb (l : List UInt8) : List.take l.length (l.map pbyte) = l.map pbyte := List.take_of_length_le (by rw [List.length_map]; exact Nat.le_refl _)
/-- Two digests, one after the other. -/
theorem dig_cells {x y : List UInt8} (hx : x.length = 16) (hy : y.length = 16) : (∀ Z, List.take 16 (x.map pbyte ++ Z) = x.map pbyte) ∧ (∀ Z, List.drop 16 (x.map pbyte ++ Z) = Z) ∧ List.drop 32 (x.map pbyte ++ List.replicate 16 (.val (.int .u8 0))) = [] ∧ (x.map pbyte ++ y.map pbyte).all PV.one = true := by
  have hl : (x.map pbyte).length = 16 := by rw [List.length_map, hx]
  refine ⟨fun Z => List.take_left' hl, fun Z => List.drop_left' hl, List.drop_eq_nil_of_le (by rw [List.length_append, hl, List.length_replicate]; omega), ?_⟩
  rw [List.all_append, all_one_byte, all_one_byte]
  rfl
theorem preM_pos {u v : List (List UInt8)} (hu : Small u) (hv : Small v) (i : Nat) : 1 ≤ (preM u v i).length := by
  have h1 := (diff_small hu hv).1
  have h6 := intB_len9 (n := ((diffL u v).length : Int)) ⟨by omega, by omega⟩
  unfold preM
  rw [List.length_append, List.length_append]
  omega
theorem rmsg_c (G : Globs) (u v : List (List UInt8)) (hu : Small u) (hv : Small v) :
    PCalls Tryd.prog G 28 [.agg ((dgL u).map pbyte), .agg ((dgL v).map pbyte), .list 3 ((diffL u v).map Chg.pv)] [] (fun res H => res = pstr (msgM u v) ∧ H = []) := by
  obtain ⟨d1, d2, d3⟩ := diff_small hu hv
  have hpl := preM_len hu hv
  have hpos := preM_pos hu hv
  have hp0 : preM u v 0 = encL id [dgL u, dgL v] ++ intB (diffL u v).length := by simp [preM]
  have hst := fun i (h : i < (diffL u v).length) => preM_step (u := u) (v := v) (i := i) h
  have hl1 : ((dgL u).map pbyte).length = 16 := by rw [List.length_map, dgL_len]
  have hl2 : ((dgL v).map pbyte).length = 16 := by rw [List.length_map, dgL_len]
  have o1 := all_one_byte (dgL u)
  have o2 := all_one_byte (dgL v)
  have t1 : List.take 16 ((dgL u).map pbyte) = (dgL u).map pbyte := List.take_of_length_le (by omega)
  have t2 : List.take 16 ((dgL v).map pbyte) = (dgL v).map pbyte := List.take_of_length_le (by omega)
  have hhl := head_len u v
  have c1 := rdigs_r G [dgL u, dgL v] (by simp [dgL_len]) (by omega) (by simp)
  have hm : msgM u v = preM u v (diffL u v).length := rfl
  have c2 := rint_c G (diffL u v).length (by omega) (by omega)
  have h9 := intB_len9 (n := ((diffL u v).length : Int)) ⟨by omega, by omega⟩
  rw [hm]
  simp only [List.map_cons, List.map_nil] at c1
  obtain ⟨q1, q2, q3, q4⟩ := dig_cells (dgL_len u) (dgL_len v)
  simp only [List.replicate_succ, List.replicate_zero] at q3
  generalize encL id [dgL u, dgL v] = hd at *
  generalize preM u v = P at *
  generalize dgL u = du at *
  generalize dgL v = dv at *
  generalize diffL u v = L at *
  (refine PCalls_f Tryd.func28 rfl Tryd.ntmps28 Tryd.results28 (by simp) fun fin hfin => ?_; have hnm : True := trivial; simp only [ev, simprocAttr])
  repeat' (first
    | (with_reducible apply W_seq_k; intro nx hnx)
    | (with_reducible first | refine wr 479 ?_)
    | (with_reducible refine WL_born (by simp) rfl (by simp) ?_; simp only [elemsOf, nl, bir, simprocAttr])
    | (with_reducible refine WL_bornH (by simp) (by simp) ?_ ?_ ?_; (· simp [frz, frz1, hnm]); (· simp [frz1, hnm, PV.one, Value.oneCell']); simp only [elemsOf, nl, bir, simprocAttr])
    | ((with_reducible first | (apply WL_op; intro nx hnx) | refine Ev_out ?_ | refine wc ?_ | (refine pf hnm fun nm hnm => ?_; try simp only [fmb] at hnm) | (refine pborn_im ?_; simp only [elemsOf, nl, bir, simprocAttr])); try (simp (maxSteps := 2000000) (disch := omega) only [ev, ↓evp, PV.cells, PV.one, PV.mem?, Value.cells, simprocAttr, hnm, Tryd.tf0, Tryd.tf1, Tryd.tf2, Tryd.tf3, Tryd.tf4, Tryd.tf5, Tryd.tf9, Tryd.tf24, Tryd.tf27, Tryd.tf37, Tryd.tf48, Tryd.tf52, Tryd.tf58, Tryd.call50, Tryd.call51, Tryd.call52, q1, q2, q3, q4, hl1, hl2, o1, o2, t1, t2, flat_pb]))
    | ((with_reducible first | apply W_block | apply W_scope | apply WL_nil | apply W_label | apply W_skip | apply W_exit | apply W_ret) <;> try simp only [kks, simprocAttr])
    | (with_reducible apply pg <;> (intro hc; (try simp only [hcb, simprocAttr, ne_eq, forall_const] at hc); first | (exfalso; omega) | exact absurd trivial hc | skip))
    | (with_reducible apply hnx; clear hnx nx)
    | (with_reducible refine And.intro (by omega) ?_)
    | (with_reducible refine And.intro ?_ ?_)
    | (with_reducible refine pe (c2) ?_)
    | ((with_reducible refine pcall_k c1 ?_; rintro _ _ ⟨N0, rfl, rfl⟩ -; refine Ev_in ?_))
    | (clear hnx nx; with_reducible apply hnx; clear hnx nx)
    | (clear hnx nx; clear hnx nx; with_reducible apply hnx; clear hnx nx))
  generalize nm = N1 at *
  clear hnm
  have hnm : True := trivial
  refine W_loop_k (fun z τ => ∃ (i : Nat) (N : Int), i ≤ L.length ∧ z = L.length - i ∧ τ = ⟨fr 50 [(8, pn i), (7, .row N 1 (P i).length), (2, .list 3 (L.map Chg.pv))], [(N, ⟨5, true, 1, (P i).map pbyte⟩)]⟩) L.length
    ⟨fr 50 [(8, pn 0), (7, .row N1 1 (P 0).length), (2, .list 3 (L.map Chg.pv))], [(N1, ⟨5, true, 1, (P 0).map pbyte⟩)]⟩ (by
    rw [hp0, List.length_append, List.map_append]
    refine Wk_fr (by simp only [wkb, simprocAttr, pn]) ?_
    exact ⟨fun x hx => by
      rw [List.mem_singleton] at hx
      subst hx
      exact List.mem_cons_self, by simp [names]⟩) ⟨0, N1, by omega, by omega, rfl⟩ ?_
  rintro z τ ⟨i, N, hi, rfl, rfl⟩ lp hlp
  have hpi := hpl i
  have hpi2 := hpl (i + 1)
  by_cases hil : i < L.length
  · have hget : L[i]? = some L[i] := List.getElem?_eq_getElem hil
    have hc := d3 L[i] (List.getElem_mem hil)
    have hstep := hst i hil
    obtain ⟨c, hcc⟩ : ∃ c, c = L[i] := ⟨_, rfl⟩
    rw [← hcc] at hget hc hstep
    obtain ⟨e1, e2, e3, e4⟩ := hc
    have e5 := enc5 e4 (by omega)
    have k1 := rint_c G c.at_ (by omega) (by omega)
    have k2 := rint_c G c.drop (by omega) (by omega)
    have k3 := rstrs_c G c.add (fun s hs => by have := e4 s hs; omega) (by omega) (by omega)
    have l1 := intB_len9 (n := c.at_) ⟨by omega, by omega⟩
    have l2 := intB_len9 (n := c.drop) ⟨by omega, by omega⟩
    have hch : chB c = intB c.at_ ++ (intB c.drop ++ encL bytesB c.add) := rfl
    rw [hch] at hstep
    generalize intB c.at_ = X at *
    generalize intB c.drop = Y at *
    generalize encL bytesB c.add = Z at *
    generalize P i = p at *
    repeat' (first
    | (with_reducible apply W_seq_k; intro nx hnx)
    | (with_reducible first | refine wr 479 ?_)
    | ((with_reducible first | (apply WL_op; intro nx hnx) | refine Ev_out ?_ | refine wc ?_ | (refine pf hnm fun nm hnm => ?_; try simp only [fmb] at hnm) | (refine pm hnm fun nm hnm => ?_; try simp only [fmb] at hnm)); try (simp (maxSteps := 2000000) (disch := omega) only [ev, ↓evp, PV.cells, PV.one, PV.mem?, Value.cells, simprocAttr, hnm, Tryd.tf0, Tryd.tf1, Tryd.tf2, Tryd.tf3, Tryd.tf4, Tryd.tf5, Tryd.tf9, Tryd.tf24, Tryd.tf27, Tryd.tf37, Tryd.tf48, Tryd.tf52, Tryd.tf58, Tryd.call50, Tryd.call51, Tryd.call52, hget, ← hcc, flat_pb]))
    | ((with_reducible first | apply W_block | apply W_scope | apply WL_nil | apply W_label | apply W_skip | apply W_exit | apply W_ret) <;> try simp only [kks, simprocAttr])
    | (with_reducible apply pg <;> (intro hc; (try simp only [hcb, simprocAttr, ne_eq, forall_const] at hc); first | (exfalso; omega) | exact absurd trivial hc | skip))
    | (with_reducible apply hnx; clear hnx nx)
    | (with_reducible refine And.intro (by omega) ?_)
    | (with_reducible refine And.intro ?_ ?_)
    | (with_reducible refine pe (k1) ?_)
    | (with_reducible refine pe (k2) ?_)
    | (with_reducible refine pe (k3) ?_)
    | (clear hnx nx; with_reducible apply hnx; clear hnx nx)
    | (clear hnx nx; clear hnx nx; with_reducible apply hnx; clear hnx nx))
    all_goals first
      | exact absurd trivial hc
      | (exfalso
         omega)
      | skip
    refine hlp _ (L.length - (i + 1)) ⟨fr 50 [(8, pn (i + 1)), (7, .row nm 1 (P (i + 1)).length), (2, .list 3 (L.map Chg.pv))], [(nm, ⟨5, true, 1, (P (i + 1)).map pbyte⟩)]⟩ (by omega) ?_ ⟨i + 1, nm, by omega, rfl, rfl⟩
    have hcs : (p ++ (X ++ (Y ++ Z))).map pbyte = p.map pbyte ++ X.map pbyte ++ Y.map pbyte ++ Z.map pbyte := by simp [List.map_append]
    rw [hstep, hcs]
    refine Wk_fr (by simp only [wkb, simprocAttr, pn, List.length_append, Nat.add_assoc]) ?_
    exact Sub_refl (by simp [names])
  · have hi2 : i = L.length := by omega
    subst hi2
    have a1 := isByte_pb (P L.length)
    have a2 := unb_pb (P L.length)
    have a3 := take_pb (P L.length)
    have a4 : ((P L.length).length = 0) = False := eq_false (by have := hpos L.length; omega)
    generalize P L.length = p at *
    repeat' (first
    | (with_reducible apply W_seq_k; intro nx hnx)
    | (with_reducible first | refine wr 479 ?_)
    | ((with_reducible first | (apply WL_op; intro nx hnx) | refine Ev_out ?_ | refine wc ?_ | (refine pf hnm fun nm hnm => ?_; try simp only [fmb] at hnm) | (refine pm hnm fun nm hnm => ?_; try simp only [fmb] at hnm)); try (simp (maxSteps := 2000000) (disch := omega) only [ev, ↓evp, PV.cells, PV.one, PV.mem?, Value.cells, simprocAttr, hnm, Tryd.tf0, Tryd.tf1, Tryd.tf2, Tryd.tf3, Tryd.tf4, Tryd.tf5, Tryd.tf9, Tryd.tf24, Tryd.tf27, Tryd.tf37, Tryd.tf48, Tryd.tf52, Tryd.tf58, Tryd.call50, Tryd.call51, Tryd.call52, a1, a2, a3, a4, Nat.le_refl]))
    | ((with_reducible first | apply W_block | apply W_scope | apply WL_nil | apply W_label | apply W_skip | apply W_exit | apply W_ret) <;> try simp only [kks, simprocAttr])
    | (with_reducible apply pg <;> (intro hc; (try simp only [hcb, simprocAttr, ne_eq, forall_const] at hc); first | (exfalso; omega) | exact absurd trivial hc | skip))
    | (with_reducible apply hnx; clear hnx nx)
    | (with_reducible refine And.intro (by omega) ?_)
    | (with_reducible refine And.intro ?_ ?_)
    | (clear hnx nx; with_reducible apply hnx; clear hnx nx)
    | (clear hnx nx; clear hnx nx; with_reducible apply hnx; clear hnx nx))
    all_goals first
      | exact absurd trivial hc
      | (exfalso
         omega)
      | exact rfl
      | exact (by kernel_rfl : Tryd.prog.underlying 5 = some (.int .u8))
      | (refine hfin _ _ (Fin_ret1 rfl (Sub_nil _) ?_); simp only [cob, simprocAttr]; first | trivial | exact ⟨rfl, by trivial⟩ | (simp; done) | (simp; omega))
end Go.PM

namespace Go.Proofs
open Go.Shelf
def Tryd.lays240_ren : Go.Shelf.Ren := ⟨fun | 240 => 67 | 276 => 81 | n => n, fun | 72 => 94 | 70 => 92 | 164 => 137 | 37 => 27 | n => n, fun | n => n⟩
theorem Tryd.lays240 : Go.Proofs.Lays.n240 Tryd.prog Tryd.lays240_ren := {
  mixed := by kernel_rfl
  f240 := Tryd.func67.trans (congrArg some (by kernel_rfl))
  f276 := Tryd.func81.trans (congrArg some (by kernel_rfl))
  t0 := Tryd.underlying0
  a0 := Tryd.isAgg0
  z0 := Tryd.sizeOf0
  v0 := Tryd.zeroValue0
  t4 := Tryd.underlying4
  a4 := Tryd.isAgg4
  z4 := Tryd.sizeOf4
  v4 := Tryd.zeroValue4
  t9 := Tryd.underlying9
  a9 := Tryd.isAgg9
  z9 := Tryd.sizeOf9
  v9 := Tryd.zeroValue9
  t20 := Tryd.underlying20
  a20 := Tryd.isAgg20
  z20 := Tryd.sizeOf20
  v20 := Tryd.zeroValue20
  t70 := Tryd.underlying92
  a70 := Tryd.isAgg92
  z70 := Tryd.sizeOf92
  v70 := Tryd.zeroValue92
  t72 := Tryd.underlying94
  a72 := Tryd.isAgg94
  z72 := Tryd.sizeOf94
  v72 := Tryd.zeroValue94
  t164 := Tryd.underlying137
  a164 := Tryd.isAgg137
  z164 := Tryd.sizeOf137
  v164 := Tryd.zeroValue137 }
theorem Tryd.Builder_X72_240 : Builder.X72 Tryd.prog Tryd.lays240_ren := {
  sizeBuilder := by kernel_rfl
  liesBuilder := by kernel_rfl }
end Go.Proofs
namespace Go.PM
open Go.Proofs
theorem copyCheck_c (G : Globs) (b : Int) (p q : PV) (hp : p = .val (.pointer none) ∨ p = .ptr b 0) :
    PCalls Tryd.prog G 67 [.ptr b 0] [(b, ⟨94, false, 0, [p, q]⟩)] (fun res H => res = .val (.tuple #[]) ∧ H = [(b, ⟨94, false, 0, [.ptr b 0, q]⟩)]) := by
  unfold PCalls
  intro w A F vals hA hG hnd hobj hown hsz hvals
  obtain ⟨v, hv, hr⟩ := hvals 0 (.ptr b 0) rfl
  have hs : Sim G ⟨w, A, [b], F⟩ A ⟨[], [(b, ⟨94, false, 0, [p, q]⟩)]⟩ ⟨#[], []⟩ w :=
    ⟨Ext.refl _ _, hA, fun _ h => h, fun _ h => .inl h, hG, hnd, hobj, fun n o h x hx => by
      obtain ⟨h1, h2⟩ := hown n o h x hx
      refine ⟨h1, h2, .inr ?_⟩
      simp only [List.mem_cons, List.not_mem_nil, or_false] at h
      cases h
      simp [Amb.M, hx], fun n o h hn => .inr (by
      simp only [List.mem_cons, List.not_mem_nil, or_false] at h
      cases h
      simp), rfl, rfl, by simp⟩
  obtain ⟨b', x', rfl, rfl, hsh⟩ : ∃ (b' : Nat) (x' : TypeId × Nat), b = b' ∧ v = .pointer (some (at_ b' 0)) ∧ w.shape? b' = some x' := by
    cases hr with
    | ptr b' off x' hs' => exact ⟨b', x', rfl, rfl, hs'⟩
  have hvs : vals = #[.pointer (some (at_ b' 0))] := by
    apply Array.ext
    · simpa using hsz
    · intro i h1 h2
      have h3 : i = 0 := by simp at h2; omega
      subst h3
      rw [Array.getElem?_eq_getElem h1] at hv
      simpa using Option.some.inj hv
  subst hvs
  obtain ⟨cur, fz, f, hh, hu, hg, hc⟩ := (hobj _ _ List.mem_cons_self).block rfl hsh
  have hsize : cur.size = 2 := hg.2 rfl rfl
  obtain ⟨g1, g2, g3⟩ := hc 0 p rfl
  have hcell : w.cell? ⟨b', 0, none⟩ = some (f 0) := by
    have := cell_of_block (off := 0) hh
    simpa [g1] using this
  rcases hp with rfl | rfl
  · have e0 := g3.val_eq
    rw [e0] at hcell
    have hfz : w.frozen? ⟨b', 0, none⟩ = false := by
      have := hu 0 (by omega)
      simp only [World.frozen?, hh]
      simpa using this
    refine (Any.Builder_copyCheck_fresh Tryd.lays240 Tryd.Builder_X72_240 b' w hcell (by simp [World.shape?, hh, hsize]; rfl) hfz).mono ?_
    rintro e w' ⟨rfl, rfl⟩
    have hst := hs.store (n := (b' : Int)) (o := ⟨94, false, 0, [.val (.pointer none), q]⟩) (b := b') (off := 0) (by simp [look]) rfl hsh (xs := [.ptr b' 0]) (vs := [.pointer (some (at_ b' 0))]) rfl (by simp) (.inl (by simp)) (by
      intro j u hj
      match j, hj with
      | 0, hj => cases hj; exact ⟨rfl, _, rfl, hr⟩
      | j + 1, hj => simp at hj)
    refine ⟨_, A, .val (.tuple #[]), _, rfl, ⟨rfl, rfl⟩, .val _, ?_⟩
    have e1 : ∀ o o' : PObj, upd [((b' : Int), o)] (b' : Int) o' = [((b' : Int), o')] := fun o o' => by simp only [upd, if_true]
    rw [e1] at hst
    exact hst
  · have e0 : f 0 = .pointer (some (at_ b' 0)) := by
      generalize f 0 = v at g3
      cases g3 with
      | ptr b2 off x2 hs2 => rfl
    rw [e0] at hcell
    refine (Any.Builder_copyCheck_used Tryd.lays240 Tryd.Builder_X72_240 b' w hcell).mono ?_
    rintro e w' ⟨rfl, rfl⟩
    exact ⟨_, A, .val (.tuple #[]), _, rfl, ⟨rfl, rfl⟩, .val _, hs⟩
end Go.PM

namespace Go.PM
open Go.Proofs
section
variable {P : Program} {G : Globs} {E : Amb} {A : Nat → Prop} {σ : PState} {a : Act} {w : World} {I : List Int}
theorem PCalls.nd {f : FuncId} {args : List PV} {Hin : Heap} {R : PV → Heap → Prop} (h : (names Hin).Nodup → PCalls P G f args Hin R) : PCalls P G f args Hin R :=
  fun w A F vals h1 h2 h3 => h h3 w A F vals h1 h2 h3
/-- A call to which the objects Hin are handed, wherever they stand. -/
theorem pcall_midn {fn : FuncId} {args : List PV} {R : PV → Heap → Prop} {d : Option Tmp} {K : PState → Prop} (front Hin back : Heap) (he : σ.heap = front ++ (Hin ++ back)) (hc : PCalls P G fn args Hin R)
    (hk : ∀ res Hout, R res Hout → (names (front ++ (Hout ++ back))).Nodup → K (PState.put ⟨σ.frame, front ++ (Hout ++ back)⟩ d res)) : @pcallI false P G σ d fn args ⟨K⟩ := by
  intro E A a w vals hs hsz hvals
  have nd : (names σ.heap).Nodup := hs.nodup
  rw [he] at nd
  simp only [names, List.map_append] at nd
  obtain ⟨n1, n2, n3⟩ := List.nodup_append.1 nd
  obtain ⟨n4, n5, n6⟩ := List.nodup_append.1 n2
  have hin : ∀ x ∈ Hin, x ∈ σ.heap := fun x hx => by rw [he]; exact List.mem_append_right _ (List.mem_append_left _ hx)
  have hrest : ∀ x ∈ front ++ back, x ∈ σ.heap ∧ x.1 ∉ names Hin := fun x hx => by
    rw [he]
    rcases List.mem_append.1 hx with h | h
    · exact ⟨List.mem_append_left _ h, fun hn => n3 _ (List.mem_map.2 ⟨_, h, rfl⟩) _ (List.mem_append_left _ hn) rfl⟩
    · exact ⟨List.mem_append_right _ (List.mem_append_right _ h), fun hn => n6 _ hn _ (List.mem_map.2 ⟨_, h, rfl⟩) rfl⟩
  have hrn : (names (front ++ back)).Nodup := by
    simp only [names, List.map_append]
    exact List.nodup_append.2 ⟨n1, n5, fun x hx y hy => n3 x hx y (List.mem_append_right _ hy)⟩
  refine (hc w A (names σ.heap ++ E.F) vals hs.lt hs.globs n4 (fun n o h => hs.objs n o (hin _ h)) (fun n o h b hb => ⟨(hs.own n o (hin _ h) b hb).1, (hs.own n o (hin _ h) b hb).2.1⟩) hsz hvals).mono ?_
  rintro e w' ⟨v, A', res, Hout, rfl, hR, hr, hs'⟩
  obtain ⟨hdis, hsim⟩ := hs.calledI (fun n h => List.mem_append.2 h) hin hrest hrn hs'
  have hperm : (front ++ (Hout ++ back)).Perm (Hout ++ (front ++ back)) := by
    rw [← List.append_assoc, ← List.append_assoc]
    exact List.Perm.append_right _ List.perm_append_comm
  have hsim2 : Sim G E A' ⟨σ.frame, front ++ (Hout ++ back)⟩ a w' := hsim.sub ⟨fun x hx => hperm.mem_iff.1 hx, (List.Perm.nodup_iff (List.Perm.map _ hperm)).2 hsim.nodup⟩
  exact ⟨v, _, A', rfl, hk res Hout hR hsim2.nodup, hsim2.put d hr, fun h => Bool.noConfusion h⟩
theorem pcall_mid {fn : FuncId} {args : List PV} {R : PV → Heap → Prop} {d : Option Tmp} {K : PState → Prop} (front Hin back : Heap) (he : σ.heap = front ++ (Hin ++ back)) (hc : PCalls P G fn args Hin R)
    (hk : ∀ res Hout, R res Hout → K (PState.put ⟨σ.frame, front ++ (Hout ++ back)⟩ d res)) : @pcallI false P G σ d fn args ⟨K⟩ :=
  pcall_midn front Hin back he hc fun res Hout h _ => hk res Hout h
end
/-- A builder that holds bytes. -/
@[reducible] def BS (b : Int) (bs : List UInt8) (H : Heap) : Prop :=
  (bs = [] ∧ H = [(b, ⟨94, false, 0, [.val (.pointer none), pnil]⟩)]) ∨ (bs ≠ [] ∧ ∃ r : Int, H = [(b, ⟨94, false, 0, [.ptr b 0, .row r 1 bs.length]⟩), (r, ⟨5, true, 1, bs.map pbyte⟩)])
attribute [local irreducible] W PCalls pcall pcallI WL
set_option maxRecDepth 100000 in
set_option maxHeartbeats 8000000 in
theorem writeL_c (G : Globs) (b : Int) (bs s : List UInt8) (hs0 : s ≠ []) (hsl : s.length ≤ 1000000) (hbl : bs.length ≤ 1000000000) (Hin : Heap) (hH : BS b bs Hin) :
    PCalls Tryd.prog G 42 [.ptr b 0, .list 1 (s.map pbyte)] Hin (fun res H => res = .tuple [pint .i64 s.length, .val .nilIface] ∧ BS b (bs ++ s) H) := by
  have hpos : 0 < s.length := List.length_pos_iff.2 hs0
  have hfl : flat (s.map pbyte) = s.map pbyte := flat_pb s
  rcases hH with ⟨rfl, rfl⟩ | ⟨hb0, r, rfl⟩
  · have c1 := copyCheck_c G b (.val (.pointer none)) pnil (.inl rfl)
    (refine PCalls_f Tryd.func42 rfl Tryd.ntmps42 Tryd.results42 (by simp) fun fin hfin => ?_; have hnm : True := trivial; simp only [ev, simprocAttr])
    repeat' (first
    | (with_reducible apply W_seq_k; intro nx hnx)
    | (with_reducible first | refine wr 51 ?_)
    | ((with_reducible first | (apply WL_op; intro nx hnx) | refine Ev_out ?_ | refine wc ?_ | (refine pf hnm fun nm hnm => ?_; try simp only [fmb] at hnm) | (refine pm hnm fun nm hnm => ?_; try simp only [fmb] at hnm)); try (simp (maxSteps := 2000000) (disch := omega) only [ev, ↓evp, PV.cells, PV.one, PV.mem?, Value.cells, simprocAttr, hnm, Tryd.tf0, Tryd.tf1, Tryd.tf3, Tryd.tf5, Tryd.tf27, Tryd.tf92, Tryd.tf94, Tryd.tf96, Tryd.call67, hfl]))
    | ((with_reducible first | apply W_block | apply W_scope | apply WL_nil | apply W_label | apply W_skip | apply W_exit | apply W_ret) <;> try simp only [kks, simprocAttr])
    | (with_reducible apply hnx; clear hnx nx)
    | (with_reducible refine And.intro (by omega) ?_)
    | (with_reducible refine And.intro ?_ ?_)
    | ((refine pcall_mid [] _ [] rfl c1 ?_; rintro _ _ ⟨rfl, rfl⟩; refine Ev_in ?_))
    | (clear hnx nx; with_reducible apply hnx; clear hnx nx)
    | (clear hnx nx; clear hnx nx; with_reducible apply hnx; clear hnx nx))
    refine hfin _ _ (Fin_ret2 rfl rfl (H := [(b, ⟨94, false, 0, [.ptr b 0, .row nm 1 s.length]⟩), (nm, ⟨5, true, 1, s.map pbyte⟩)]) ⟨?_, ?_⟩ ⟨?_, .inr ⟨by simpa using hs0, nm, rfl⟩⟩)
    · intro x hx
      simp only [List.mem_cons, List.not_mem_nil, or_false] at hx ⊢
      rcases hx with rfl | rfl
      · exact .inr rfl
      · exact .inl rfl
    · simp [names, hnm]
    · simp only [fr_getD_cons, Nat.reduceEqDiff, Nat.reduceLT, ↓reduceIte]
  · refine PCalls.nd fun nd => ?_
    have hne : (b = r) = False ∧ (r = b) = False := by
      simp only [names, List.map_cons, List.map_nil, List.nodup_cons, List.mem_cons, List.not_mem_nil, or_false] at nd
      exact ⟨eq_false nd.1, eq_false fun e => nd.1 e.symm⟩
    have c1 := copyCheck_c G b (.ptr b 0) (.row r 1 bs.length) (.inr rfl)
    (refine PCalls_f Tryd.func42 rfl Tryd.ntmps42 Tryd.results42 (by simp) fun fin hfin => ?_; have hnm : True := trivial; simp only [ev, simprocAttr])
    repeat' (first
    | (with_reducible apply W_seq_k; intro nx hnx)
    | (with_reducible first | refine wr 51 ?_)
    | ((with_reducible first | (apply WL_op; intro nx hnx) | refine Ev_out ?_ | refine wc ?_ | (refine pf hnm fun nm hnm => ?_; try simp only [fmb] at hnm) | (refine pm hnm fun nm hnm => ?_; try simp only [fmb] at hnm)); try (simp (maxSteps := 2000000) (disch := omega) only [ev, ↓evp, PV.cells, PV.one, PV.mem?, Value.cells, simprocAttr, hnm, Tryd.tf0, Tryd.tf1, Tryd.tf3, Tryd.tf5, Tryd.tf27, Tryd.tf92, Tryd.tf94, Tryd.tf96, Tryd.call67, hne, hfl]))
    | ((with_reducible first | apply W_block | apply W_scope | apply WL_nil | apply W_label | apply W_skip | apply W_exit | apply W_ret) <;> try simp only [kks, simprocAttr])
    | (with_reducible apply hnx; clear hnx nx)
    | (with_reducible refine And.intro (by omega) ?_)
    | (with_reducible refine And.intro ?_ ?_)
    | ((refine pcall_mid [] [_] [_] rfl c1 ?_; rintro _ _ ⟨rfl, rfl⟩; refine Ev_in ?_))
    | (clear hnx nx; with_reducible apply hnx; clear hnx nx)
    | (clear hnx nx; clear hnx nx; with_reducible apply hnx; clear hnx nx))
    have e1 : (bs ++ s).map pbyte = bs.map pbyte ++ s.map pbyte := List.map_append
    have e2 : (bs ++ s).length = bs.length + s.length := List.length_append
    refine hfin _ _ (Fin_ret2 rfl rfl (H := [(b, ⟨94, false, 0, [.ptr b 0, .row nm 1 (bs ++ s).length]⟩), (nm, ⟨5, true, 1, (bs ++ s).map pbyte⟩)]) ⟨?_, ?_⟩ ⟨?_, .inr ⟨by simp [hb0], nm, rfl⟩⟩)
    · intro x hx
      rw [e1, e2] at hx
      simp only [List.mem_cons, List.not_mem_nil, or_false] at hx ⊢
      rcases hx with rfl | rfl
      · exact .inr rfl
      · exact .inl rfl
    · simp [names, hnm]
    · simp only [fr_getD_cons, Nat.reduceEqDiff, Nat.reduceLT, ↓reduceIte]
set_option maxRecDepth 100000 in
set_option maxHeartbeats 8000000 in
theorem writeA_c (G : Globs) (b v : Int) (bs s : List UInt8) (hs0 : s.length = 16) (hbl : bs.length ≤ 1000000000) (HB : Heap) (hH : BS b bs HB) :
    PCalls Tryd.prog G 42 [.ptr b 0, .sub v 1 0 16] ((v, ⟨37, false, 0, s.map pbyte⟩) :: HB) (fun res H => res = .tuple [pint .i64 16, .val .nilIface] ∧ BS b (bs ++ s) H) := by
  have hsn : s ≠ [] := by
    rintro rfl
    cases hs0
  have hml : (s.map pbyte).length = 16 := by rw [List.length_map, hs0]
  have tk : List.take 16 (s.map pbyte) = s.map pbyte := List.take_of_length_le (by omega)
  have hon := all_one_byte s
  refine PCalls.nd fun nd => ?_
  rcases hH with ⟨rfl, rfl⟩ | ⟨hb0, r, rfl⟩
  · have hne : (b = v) = False ∧ (v = b) = False := by
      simp only [names, List.map_cons, List.map_nil, List.nodup_cons, List.mem_cons, List.not_mem_nil, or_false] at nd
      exact ⟨eq_false fun e => nd.1 e.symm, eq_false nd.1⟩
    have c1 := copyCheck_c G b (.val (.pointer none)) pnil (.inl rfl)
    (refine PCalls_f Tryd.func42 rfl Tryd.ntmps42 Tryd.results42 (by simp) fun fin hfin => ?_; have hnm : True := trivial; simp only [ev, simprocAttr])
    repeat' (first
    | (with_reducible apply W_seq_k; intro nx hnx)
    | (with_reducible first | refine wr 51 ?_)
    | ((with_reducible first | (apply WL_op; intro nx hnx) | refine Ev_out ?_ | refine wc ?_ | (refine pf hnm fun nm hnm => ?_; try simp only [fmb] at hnm) | (refine pm hnm fun nm hnm => ?_; try simp only [fmb] at hnm)); try (simp (maxSteps := 2000000) (disch := omega) only [ev, ↓evp, PV.cells, PV.one, PV.mem?, Value.cells, simprocAttr, hnm, Tryd.tf0, Tryd.tf1, Tryd.tf3, Tryd.tf5, Tryd.tf27, Tryd.tf92, Tryd.tf94, Tryd.tf96, Tryd.call67, hne, hml, tk, hon]))
    | ((with_reducible first | apply W_block | apply W_scope | apply WL_nil | apply W_label | apply W_skip | apply W_exit | apply W_ret) <;> try simp only [kks, simprocAttr])
    | (with_reducible apply hnx; clear hnx nx)
    | (with_reducible refine And.intro (by omega) ?_)
    | (with_reducible refine And.intro ?_ ?_)
    | ((refine pcall_mid [_] [_] [] rfl c1 ?_; rintro _ _ ⟨rfl, rfl⟩; refine Ev_in ?_))
    | (clear hnx nx; with_reducible apply hnx; clear hnx nx)
    | (clear hnx nx; clear hnx nx; with_reducible apply hnx; clear hnx nx))
    refine hfin _ _ (Fin_ret2 rfl rfl (H := [(b, ⟨94, false, 0, [.ptr b 0, .row nm 1 16]⟩), (nm, ⟨5, true, 1, s.map pbyte⟩)]) ⟨?_, ?_⟩ ⟨?_, .inr ⟨by simpa using hsn, nm, by simp [hs0]⟩⟩)
    · intro x hx
      simp only [List.mem_cons, List.not_mem_nil, or_false] at hx ⊢
      rcases hx with rfl | rfl
      · exact .inr (.inr rfl)
      · exact .inl rfl
    · simp [names, hnm]
    · simp only [fr_getD_cons, Nat.reduceEqDiff, Nat.reduceLT, ↓reduceIte]
  · have hne : (b = r) = False ∧ (r = b) = False ∧ (b = v) = False ∧ (v = b) = False ∧ (r = v) = False ∧ (v = r) = False := by
      simp only [names, List.map_cons, List.map_nil, List.nodup_cons, List.mem_cons, List.not_mem_nil, or_false, not_or] at nd
      obtain ⟨⟨n1, n2⟩, n3, -⟩ := nd
      exact ⟨eq_false n3, eq_false fun e => n3 e.symm, eq_false fun e => n1 e.symm, eq_false n1, eq_false fun e => n2 e.symm, eq_false n2⟩
    have c1 := copyCheck_c G b (.ptr b 0) (.row r 1 bs.length) (.inr rfl)
    (refine PCalls_f Tryd.func42 rfl Tryd.ntmps42 Tryd.results42 (by simp) fun fin hfin => ?_; have hnm : True := trivial; simp only [ev, simprocAttr])
    repeat' (first
    | (with_reducible apply W_seq_k; intro nx hnx)
    | (with_reducible first | refine wr 51 ?_)
    | ((with_reducible first | (apply WL_op; intro nx hnx) | refine Ev_out ?_ | refine wc ?_ | (refine pf hnm fun nm hnm => ?_; try simp only [fmb] at hnm) | (refine pm hnm fun nm hnm => ?_; try simp only [fmb] at hnm)); try (simp (maxSteps := 2000000) (disch := omega) only [ev, ↓evp, PV.cells, PV.one, PV.mem?, Value.cells, simprocAttr, hnm, Tryd.tf0, Tryd.tf1, Tryd.tf3, Tryd.tf5, Tryd.tf27, Tryd.tf92, Tryd.tf94, Tryd.tf96, Tryd.call67, hne, hml, tk, hon]))
    | ((with_reducible first | apply W_block | apply W_scope | apply WL_nil | apply W_label | apply W_skip | apply W_exit | apply W_ret) <;> try simp only [kks, simprocAttr])
    | (with_reducible apply hnx; clear hnx nx)
    | (with_reducible refine And.intro (by omega) ?_)
    | (with_reducible refine And.intro ?_ ?_)
    | ((refine pcall_mid [_] [_] [_] rfl c1 ?_; rintro _ _ ⟨rfl, rfl⟩; refine Ev_in ?_))
    | (clear hnx nx; with_reducible apply hnx; clear hnx nx)
    | (clear hnx nx; clear hnx nx; with_reducible apply hnx; clear hnx nx))
    have e1 : (bs ++ s).map pbyte = bs.map pbyte ++ s.map pbyte := List.map_append
    have e2 : (bs ++ s).length = bs.length + 16 := by rw [List.length_append, hs0]
    refine hfin _ _ (Fin_ret2 rfl rfl (H := [(b, ⟨94, false, 0, [.ptr b 0, .row nm 1 (bs ++ s).length]⟩), (nm, ⟨5, true, 1, (bs ++ s).map pbyte⟩)]) ⟨?_, ?_⟩ ⟨?_, .inr ⟨by simp [hb0], nm, rfl⟩⟩)
    · intro x hx
      rw [e1, e2] at hx
      simp only [List.mem_cons, List.not_mem_nil, or_false] at hx ⊢
      rcases hx with rfl | rfl
      · exact .inr (.inr rfl)
      · exact .inl rfl
    · simp [names, hnm]
    · simp only [fr_getD_cons, Nat.reduceEqDiff, Nat.reduceLT, ↓reduceIte]
set_option maxRecDepth 100000 in
set_option maxHeartbeats 8000000 in
theorem string_c (G : Globs) (b : Int) (bs : List UInt8) (hbl : bs.length ≤ 1000000000) (Hin : Heap) (hH : BS b bs Hin) : PCalls Tryd.prog G 47 [.ptr b 0] Hin (fun res H => res = pstr bs ∧ H = []) := by
  rcases hH with ⟨rfl, rfl⟩ | ⟨hb0, r, rfl⟩
  · (refine PCalls_f Tryd.func47 rfl Tryd.ntmps47 Tryd.results47 (by simp) fun fin hfin => ?_; have hnm : True := trivial; simp only [ev, simprocAttr])
    repeat' (first
    | (with_reducible apply W_seq_k; intro nx hnx)
    | (with_reducible first | refine wr 5 ?_ | refine wd (id := 1) 5 4 (.op 0 true (.op 1 true (.op 2 true (.op 3 true (.op 5 true (.op 6 true (.op 7 true (.op 8 true (.op 9 true (.op 4 true (.op 10 false (.op 11 true (.done))))))))))))) (by kernel_rfl) ?_)
    | ((with_reducible first | (apply WL_op; intro nx hnx) | refine Ev_out ?_ | refine wc ?_ | (apply popsD_op; intro nx hnx) | (refine popsD_alt ?_ ?_; intro nx hnx)); try (simp (maxSteps := 2000000) (disch := omega) only [ev, ↓evp, PV.cells, PV.one, PV.mem?, Value.cells, simprocAttr, hnm, Tryd.tf0, Tryd.tf1, Tryd.tf3, Tryd.tf5, Tryd.tf9, Tryd.tf27, Tryd.tf92, Tryd.tf94, Tryd.tf124]))
    | ((with_reducible first | apply W_block | apply W_scope | apply WL_nil | apply W_label | apply W_skip | apply W_exit | apply W_ret | apply popsD_done | exact popsD_stop) <;> try simp only [kks, simprocAttr])
    | (with_reducible apply hnx; clear hnx nx)
    | (with_reducible refine And.intro (by omega) ?_)
    | (with_reducible refine And.intro ?_ ?_)
    | (clear hnx nx; with_reducible apply hnx; clear hnx nx)
    | (clear hnx nx; clear hnx nx; with_reducible apply hnx; clear hnx nx))
    (refine hfin _ _ (Fin_ret1 rfl (Sub_nil _) ?_); simp only [cob, simprocAttr]; first | trivial | exact ⟨rfl, by trivial⟩ | (simp; done) | (simp; omega))
  · refine PCalls.nd fun nd => ?_
    have hne : (b = r) = False ∧ (r = b) = False := by
      simp only [names, List.map_cons, List.map_nil, List.nodup_cons, List.mem_cons, List.not_mem_nil, or_false] at nd
      exact ⟨eq_false nd.1, eq_false fun e => nd.1 e.symm⟩
    have hpos : 0 < bs.length := List.length_pos_iff.2 hb0
    have u1 := unb_pb bs
    have u2 := isByte_pb bs
    (refine PCalls_f Tryd.func47 rfl Tryd.ntmps47 Tryd.results47 (by simp) fun fin hfin => ?_; have hnm : True := trivial; simp only [ev, simprocAttr])
    repeat' (first
    | (with_reducible apply W_seq_k; intro nx hnx)
    | (with_reducible first | refine wr 5 ?_ | refine wd (id := 1) 5 4 (.op 0 true (.op 1 true (.op 2 true (.op 3 true (.op 5 true (.op 6 true (.op 7 true (.op 8 true (.op 9 true (.op 4 true (.op 10 false (.op 11 true (.done))))))))))))) (by kernel_rfl) ?_)
    | ((with_reducible first | (apply WL_op; intro nx hnx) | refine Ev_out ?_ | refine wc ?_ | (apply popsD_op; intro nx hnx) | (refine popsD_alt ?_ ?_; intro nx hnx)); try (simp (maxSteps := 2000000) (disch := omega) only [ev, ↓evp, PV.cells, PV.one, PV.mem?, Value.cells, simprocAttr, hnm, Tryd.tf0, Tryd.tf1, Tryd.tf3, Tryd.tf5, Tryd.tf9, Tryd.tf27, Tryd.tf92, Tryd.tf94, Tryd.tf124, hne, u1, u2, List.length_map]))
    | ((with_reducible first | apply W_block | apply W_scope | apply WL_nil | apply W_label | apply W_skip | apply W_exit | apply W_ret | apply popsD_done | exact popsD_stop) <;> try simp only [kks, simprocAttr])
    | (with_reducible apply hnx; clear hnx nx)
    | (with_reducible refine And.intro (by omega) ?_)
    | (with_reducible refine And.intro ?_ ?_)
    | (clear hnx nx; with_reducible apply hnx; clear hnx nx)
    | (clear hnx nx; clear hnx nx; with_reducible apply hnx; clear hnx nx))
    all_goals first
      | (refine hfin _ _ (Fin_ret1 rfl (Sub_nil _) ?_); simp only [cob, simprocAttr]; first | trivial | exact ⟨rfl, by trivial⟩ | (simp; done) | (simp; omega))
      | exact (by kernel_rfl : Tryd.prog.cellsOf 5 = 1)
end Go.PM

namespace Go.PM
open Go.Proofs
attribute [local irreducible] W PCalls pcall pcallI WL
set_option maxRecDepth 100000 in
set_option maxHeartbeats 8000000 in
theorem leaf_c (G : Globs) (hG : G 0 = .iptr (KS.map pw) 0) (f : FuncId) (caps : List PV) (vals : Nat → List UInt8) (hv : ∀ c, c < 68 → (vals c).length = 16) (hcall : callable Tryd.prog f = true)
    (hc : ∀ c : Nat, c < 68 → PCalls Tryd.prog G f (pint .i64 c :: caps) [] (fun res H => res = .agg ((vals c).map pbyte) ∧ H = [])) :
    PCalls Tryd.prog G 58 [.func f caps] [] (fun res H => res = .agg ((leafF vals).map pbyte) ∧ H = []) := by
  obtain ⟨Z, hZ⟩ : ∃ Z, Z = List.replicate 16 (pint .u8 0) := ⟨_, rfl⟩
  have hZ2 : [pint .u8 0, pint .u8 0, pint .u8 0, pint .u8 0, pint .u8 0, pint .u8 0, pint .u8 0, pint .u8 0, pint .u8 0, pint .u8 0, pint .u8 0, pint .u8 0, pint .u8 0, pint .u8 0, pint .u8 0, pint .u8 0] = Z := by rw [hZ]; rfl
  have hZl : Z.length = 16 := by rw [hZ]; rfl
  have hZd : List.drop 16 Z = [] := List.drop_of_length_le (by omega)
  have hZo : Z.all PV.one = true := by rw [hZ]; rfl
  (refine PCalls_f Tryd.func58 rfl Tryd.ntmps58 Tryd.results58 (by simp) fun fin hfin => ?_; have hnm : True := trivial; simp only [ev, simprocAttr])
  repeat' (first
    | (with_reducible apply W_seq_k; intro nx hnx)
    | (with_reducible first | refine wr 253 ?_)
    | ((with_reducible first | (apply WL_op; intro nx hnx) | refine Ev_out ?_ | refine wc ?_ | (refine pf hnm fun nm hnm => ?_; try simp only [fmb] at hnm) | (refine pm hnm fun nm hnm => ?_; try simp only [fmb] at hnm)); try (simp (maxSteps := 2000000) (disch := omega) only [ev, ↓evp, PV.cells, PV.one, PV.mem?, Value.cells, simprocAttr, hnm, Tryd.tf0, Tryd.tf1, Tryd.tf3, Tryd.tf4, Tryd.tf5, Tryd.tf9, Tryd.tf24, Tryd.tf27, Tryd.tf37, Tryd.tf94, Tryd.tf97, Tryd.tf109, Tryd.call14, Tryd.call42, Tryd.call47]))
    | ((with_reducible first | apply W_block | apply W_scope | apply WL_nil | apply W_label | apply W_skip | apply W_exit | apply W_ret) <;> try simp only [kks, simprocAttr])
    | (with_reducible apply pg <;> (intro hc; (try simp only [hcb, simprocAttr, ne_eq, forall_const] at hc); first | (exfalso; omega) | exact absurd trivial hc | skip))
    | (with_reducible apply hnx; clear hnx nx)
    | (with_reducible refine And.intro (by omega) ?_)
    | (with_reducible refine And.intro ?_ ?_)
    | (clear hnx nx; with_reducible apply hnx; clear hnx nx)
    | (clear hnx nx; clear hnx nx; with_reducible apply hnx; clear hnx nx))
  obtain ⟨NB, hNB⟩ : ∃ N, N = nm := ⟨_, rfl⟩
  subst hNB
  obtain ⟨NA, hNA⟩ : ∃ N, N = nm := ⟨_, rfl⟩
  subst hNA
  refine W_loop_k (fun z τ => ∃ (c : Nat) (s : List UInt8) (HB : Heap), c ≤ 68 ∧ z = 68 - c ∧ s = catF vals c ∧ s.length = 16 * c ∧ BS NB s HB ∧ (names (HB ++ [(NA, ⟨37, false, 0, Z⟩)])).Nodup ∧
      τ = ⟨fr 23 [(7, pint .i64 c), (3, .ptr NB 0), (2, .ptr NA 0), (0, .func f caps)], HB ++ [(NA, ⟨37, false, 0, Z⟩)]⟩) 68
    ⟨fr 23 [(7, pint .i64 (0 : Nat)), (3, .ptr NB 0), (2, .ptr NA 0), (0, .func f caps)], [(NB, ⟨94, false, 0, [.val (.pointer none), pnil]⟩)] ++ [(NA, ⟨37, false, 0, Z⟩)]⟩ (by
    rw [← hZ2]
    refine Wk_fr (by simp only [wkb, simprocAttr]) ?_
    exact Sub_refl (by simp [names, hnm])) ⟨0, [], _, by omega, by omega, rfl, rfl, .inl ⟨rfl, rfl⟩, by simp [names, hnm], rfl⟩ ?_
  rintro z τ ⟨c, s, HB, hcl, rfl, hs, hsl, hB, hnd, rfl⟩ lp hlp
  by_cases hlt : c < 68
  · have c1 := hc c hlt
    have hvl := hv c hlt
    have hsu := catF_succ vals c
    obtain ⟨u, hu⟩ : ∃ u, u = s ++ vals c := ⟨_, rfl⟩
    have hul : u = catF vals (c + 1) := by rw [hu, hs, hsu]
    have hull : u.length = 16 * (c + 1) := by rw [hu, List.length_append, hsl, hvl]; omega
    generalize vals c = x at *
    have cw := fun v => writeA_c G NB v s x hvl (by omega) HB hB
    rw [← hu] at cw
    have hxl : (x.map pbyte).length = 16 := by rw [List.length_map, hvl]
    have tx : List.take 16 (x.map pbyte) = x.map pbyte := List.take_of_length_le (by omega)
    have hxo := all_one_byte x
    repeat' (first
    | (with_reducible apply W_seq_k; intro nx hnx)
    | (with_reducible first | refine wr 253 ?_)
    | ((with_reducible first | (apply WL_op; intro nx hnx) | refine Ev_out ?_ | refine wc ?_ | (refine pf hnm fun nm hnm => ?_; try simp only [fmb] at hnm) | (refine pm hnm fun nm hnm => ?_; try simp only [fmb] at hnm)); try (simp (maxSteps := 2000000) (disch := omega) only [ev, ↓evp, PV.cells, PV.one, PV.mem?, Value.cells, simprocAttr, hnm, Tryd.tf0, Tryd.tf1, Tryd.tf3, Tryd.tf4, Tryd.tf5, Tryd.tf9, Tryd.tf24, Tryd.tf27, Tryd.tf37, Tryd.tf94, Tryd.tf97, Tryd.tf109, Tryd.call14, Tryd.call42, Tryd.call47, hcall, hxl, tx, hxo, hZ2, hZl, hZd, hZo]))
    | ((with_reducible first | apply W_block | apply W_scope | apply WL_nil | apply W_label | apply W_skip | apply W_exit | apply W_ret) <;> try simp only [kks, simprocAttr])
    | (with_reducible apply pg <;> (intro hc; (try simp only [hcb, simprocAttr, ne_eq, forall_const] at hc); first | (exfalso; omega) | exact absurd trivial hc | skip))
    | (with_reducible apply hnx; clear hnx nx)
    | (with_reducible refine And.intro (by omega) ?_)
    | (with_reducible refine And.intro ?_ ?_)
    | (with_reducible refine pe (c1) ?_)
    | ((refine pcall_midn [] (_ :: HB) [(NA, ⟨37, false, 0, Z⟩)] (by simp) (cw _) ?_; rintro _ H2 ⟨rfl, hB2⟩ nd2; refine Ev_in ?_))
    | (clear hnx nx; with_reducible apply hnx; clear hnx nx)
    | (clear hnx nx; clear hnx nx; with_reducible apply hnx; clear hnx nx))
    all_goals first
      | exact rfl
      | (exfalso
         omega)
      | (refine hlp _ (68 - (c + 1)) _ (by omega) ?_ ⟨c + 1, u, H2, by omega, rfl, hul, hull, hB2, nd2, rfl⟩
         refine Wk_fr (by simp only [wkb, simprocAttr]) ?_
         exact Sub_refl nd2)
  · obtain rfl : c = 68 := by omega
    have k0 := string_c G NB s (by omega) HB hB
    have k1 := hof_c G hG 9 [s] (all_lt1 (by omega)) (by simp)
    have k3 := hof_c G hG 1 [ofH 9 [s]] (all_lt1 (by rw [ofH_len]; omega)) (by simp)
    have hol := leafF_len vals
    rw [show ofH 1 [ofH 9 [s]] = leafF vals by rw [hs]; rfl] at k3
    simp only [List.map_cons, List.map_nil] at k1 k3
    have hql := ofH_len 9 [s]
    generalize leafF vals = f1 at *
    generalize ofH 9 [s] = q at *
    have hone := all_one_byte f1
    have hol2 : (f1.map pbyte).length = 16 := by rw [List.length_map, hol]
    have t3 : List.take 16 (f1.map pbyte) = f1.map pbyte := List.take_of_length_le (by omega)
    have hqo := all_one_byte q
    have hqb := isByte_pb q
    have hqu := unb_pb q
    have hq2 : (q.map pbyte).length = 16 := by rw [List.length_map, hql]
    have tq : List.take 16 (q.map pbyte) = q.map pbyte := List.take_of_length_le (by omega)
    repeat' (first
    | (with_reducible apply W_seq_k; intro nx hnx)
    | (with_reducible first | refine wr 253 ?_)
    | (with_reducible refine WL_born (by simp) rfl (by simp) ?_; simp only [elemsOf, nl, bir, simprocAttr])
    | (with_reducible refine WL_bornH (by simp) (by simp) ?_ ?_ ?_; (· simp [frz, frz1, hnm]); (· simp [frz1, hnm, PV.one, Value.oneCell']); simp only [elemsOf, nl, bir, simprocAttr])
    | ((with_reducible first | (apply WL_op; intro nx hnx) | refine Ev_out ?_ | refine wc ?_ | (refine pf hnm fun nm hnm => ?_; try simp only [fmb] at hnm) | (refine pborn_im ?_; simp only [elemsOf, nl, bir, simprocAttr])); try (simp (maxSteps := 2000000) (disch := omega) only [ev, ↓evp, PV.cells, PV.one, PV.mem?, Value.cells, simprocAttr, hnm, Tryd.tf0, Tryd.tf1, Tryd.tf3, Tryd.tf4, Tryd.tf5, Tryd.tf9, Tryd.tf24, Tryd.tf27, Tryd.tf37, Tryd.tf94, Tryd.tf97, Tryd.tf109, Tryd.call14, Tryd.call42, Tryd.call47, hone, hol2, t3, hqo, hqb, hqu, hq2, tq, hZl, hZd, hZo, hZ2]))
    | ((with_reducible first | apply W_block | apply W_scope | apply WL_nil | apply W_label | apply W_skip | apply W_exit | apply W_ret) <;> try simp only [kks, simprocAttr])
    | (with_reducible apply pg <;> (intro hc; (try simp only [hcb, simprocAttr, ne_eq, forall_const] at hc); first | (exfalso; omega) | exact absurd trivial hc | skip))
    | (with_reducible apply hnx; clear hnx nx)
    | (with_reducible refine And.intro (by omega) ?_)
    | (with_reducible refine And.intro ?_ ?_)
    | (with_reducible refine pe (k1) ?_)
    | (with_reducible refine pe (k3) ?_)
    | ((refine pcall_midn [] HB [(NA, ⟨37, false, 0, Z⟩)] (by simp) k0 ?_; rintro _ _ ⟨rfl, rfl⟩ nd2; refine Ev_in ?_))
    | (clear hnx nx; with_reducible apply hnx; clear hnx nx)
    | (clear hnx nx; clear hnx nx; with_reducible apply hnx; clear hnx nx))
    all_goals first
      | exact rfl
      | (exfalso
         omega)
      | (refine hfin _ _ ?_
         exact Fin_dig (n := NA) (by simp only [fr_getD_cons, Nat.reduceEqDiff, Nat.reduceLT, ↓reduceIte]) (by simp [look, hnm]) hol ⟨rfl, rfl⟩)
end Go.PM

namespace Go.PM
open Go.RowKit
section
variable {P : Program} {G : Globs} {E : Amb} {A : Nat → Prop} {σ : PState} {a : Act} {w : World} {q : Bool}
/-- what comes back from a call to which the objects S were lent -/
theorem Sim.lentS {w' : World} {A' : Nat → Prop} {S : Nat → Prop} {F : List Int} (hs : Sim G E A σ a w) (hS : ∀ b : Nat, S b → ∃ o, ((b : Int), o) ∈ σ.heap)
    (hs' : Sim G ⟨w, fun b => A b ∨ S b, [], F⟩ A' ⟨[], []⟩ ⟨#[], []⟩ w') : Sim G E (fun b => A' b ∧ ¬ S b) σ a w' := by
  have he : Ext (fun _ => False) w w' := hs'.ext.mono (fun x hx => (List.not_mem_nil hx).elim)
  have hm : ∀ b, A b → ¬ False := fun _ _ h => h
  have hA : ∀ b, A b → A' b ∧ ¬ S b := fun b hb => ⟨hs'.a0 b (.inl hb), fun e => by
    obtain ⟨o, ho⟩ := hS b e
    exact (hs.own _ o ho b rfl).2.1 hb⟩
  have hA1 : ∀ b, A' b ∧ ¬ S b → A b ∨ w.heap.size ≤ b := by
    intro b ⟨hb, hn⟩
    rcases hs'.a1 b hb with (h | h) | h
    · exact .inl h
    · exact absurd h hn
    · exact .inr h
  refine ⟨hs.ext.trans he (fun _ _ h => h.elim), fun b hb => hs'.lt b hb.1, fun b hb => hA b (hs.a0 b hb), fun b hb => ?_, fun g => (hs.globs g).ext he hA hm, hs.nodup, fun m o' h => (hs.objs m o' h).ext he hA hm (fun _ _ h => h), fun m o' h b hb => ?_, hs.neg, hs.defers, hs.size, fun i p hp => ?_⟩
  · rcases hA1 b hb with h | h
    · exact hs.a1 b h
    · exact .inr (Nat.le_trans hs.ext.size h)
  · obtain ⟨q1, q2, q3⟩ := hs.own m o' h b hb
    refine ⟨Nat.lt_of_lt_of_le q1 he.size, fun hb' => ?_, q3⟩
    rcases hA1 b hb' with h | h
    · exact q2 h
    · omega
  · obtain ⟨v, hv, hr⟩ := hs.frame i p hp
    exact ⟨v, hv, hr.ext he hA hm⟩
/-- A call by contract to which the objects n and m are lent, to be read: what comes back names no memory. -/
theorem pcall_lend2 {fn : FuncId} {args : List PV} {R : PV → Heap → Prop} {d : Option Tmp} {K : PState → Prop} (n m : Int) (o u : PObj) (hl : look σ.heap n = some o) (hm : look σ.heap m = some u)
    (hc : PCalls P G fn (args.map fun p => frz m u.cells (frz n o.cells p)) [] R)
    (hk : ∀ res Hout, R res Hout → Hout = [] ∧ Flat res ∧ K (PState.put σ d res)) : @pcallI q P G σ d fn args ⟨K⟩ := by
  intro E A a w vals hs hsz hvals
  have hob := hs.objs n o (look_mem hl)
  have hob2 := hs.objs m u (look_mem hm)
  have hA1 : ∀ b, A b → (A b ∨ (b : Int) = n) := fun b h => .inl h
  have hn1 : ∀ b : Nat, n = b → (A b ∨ (b : Int) = n) := fun b h => .inr h.symm
  have hA2 : ∀ b, (A b ∨ (b : Int) = n) → (A b ∨ ((b : Int) = n ∨ (b : Int) = m)) := fun b h => by
    rcases h with h | h
    · exact .inl h
    · exact .inr (.inl h)
  have hn2 : ∀ b : Nat, m = b → (A b ∨ ((b : Int) = n ∨ (b : Int) = m)) := fun b h => .inr (.inr h.symm)
  have hob3 : ObjRep w (fun b => A b ∨ (b : Int) = n) m u := hob2.ext (M := fun _ => False) (Ext.refl _ _) hA1 (fun _ _ h => h) (fun _ _ h => h)
  refine (hc w (fun b => A b ∨ ((b : Int) = n ∨ (b : Int) = m)) (names σ.heap ++ E.F) vals ?_ (fun g => (hs.globs g).mono (fun b h => .inl h) (fun _ _ _ _ h => h) (fun _ _ h => h)) (by simp) (by simp) (by simp) (by rw [List.length_map]; exact hsz) ?_).mono ?_
  · intro b hb
    rcases hb with h | h | h
    · exact hs.lt b h
    · exact (hs.own n o (look_mem hl) b h.symm).1
    · exact (hs.own m u (look_mem hm) b h.symm).1
  · intro i p hp
    rw [List.getElem?_map] at hp
    cases hj : args[i]? with
    | none => rw [hj] at hp; cases hp
    | some p0 =>
      rw [hj] at hp
      cases hp
      obtain ⟨v, hv, hr⟩ := hvals i p0 hj
      exact ⟨v, hv, frz_rep hA2 hn2 hob3 (frz_rep hA1 hn1 hob hr)⟩
  · rintro e w' ⟨v, A', res, Hout, rfl, hR, hr, hs'⟩
    obtain ⟨rfl, hflat, hK⟩ := hk res Hout hR
    have hS : ∀ b : Nat, ((b : Int) = n ∨ (b : Int) = m) → ∃ o, ((b : Int), o) ∈ σ.heap := by
      rintro b (h | h)
      · exact ⟨o, h ▸ look_mem hl⟩
      · exact ⟨u, h ▸ look_mem hm⟩
    exact ⟨v, _, _, rfl, hK, (hs.lentS hS hs').put d (hflat.rep hr), fun _ => keeps_of_sim hs'⟩
end
end Go.PM

namespace Go.PM
open Go.Proofs
attribute [local irreducible] W PCalls pcall pcallI WL
/-- The node with a number at a level. -/
def nodeV (seed : List UInt8) : Nat → Nat → List UInt8
  | 0, k => leafF (topF seed k)
  | l + 1, k => nodeF (nodeV seed l (2 * k)) (nodeV seed l (2 * k + 1))
theorem nodeF_len (a b : List UInt8) : (nodeF a b).length = 16 := ofH_len _ _
theorem nodeV_len (seed : List UInt8) : ∀ l k, (nodeV seed l k).length = 16
  | 0, k => leafF_len _
  | l + 1, k => nodeF_len _ _
/-- A digest. -/
@[reducible] def pdg (x : List UInt8) : PV := .agg (x.map pbyte)
def catD (l : List (List UInt8)) : List PV := l.flatten.map pbyte
theorem catD_len : ∀ (l : List (List UInt8)), (∀ d ∈ l, d.length = 16) → (catD l).length = l.length * 16
  | [], _ => by simp [catD]
  | d :: l, h => by
    have ih := catD_len l fun x hx => h x (.tail _ hx)
    have hd := h d (.head _)
    simp only [catD, List.length_map, List.flatten_cons, List.length_append, List.length_cons] at ih ⊢
    omega
theorem elems_dig : ∀ (l : List (List UInt8)), (∀ d ∈ l, d.length = 16) → elemsOf 16 (catD l) l.length = l.map pdg
  | [], _ => by simp [elemsOf]
  | d :: l, h => by
    have ih := elems_dig l fun x hx => h x (.tail _ hx)
    have hd := h d (.head _)
    rw [elemsOf, if_neg (by omega)] at ih ⊢
    have e : catD (d :: l) = d.map pbyte ++ catD l := by simp [catD]
    rw [List.length_cons, List.range_succ_eq_map, List.map_cons, List.map_map, List.map_cons]
    congr 1
    · rw [e, Nat.zero_mul, List.drop_zero, List.take_append_of_le_length (by simp [hd]), List.take_of_length_le (by simp [hd])]
    · rw [← ih]
      refine List.map_congr_left fun i _ => ?_
      simp only [Function.comp_apply]
      rw [e, show (i + 1) * 16 = 16 + i * 16 by omega, ← List.drop_drop, List.drop_left' (by simp [hd])]
/-- The first nodes of a level. -/
def lvD (seed : List UInt8) (l n : Nat) : List (List UInt8) := (List.range n).map (nodeV seed l)
theorem lvD_len (seed : List UInt8) (l n : Nat) : (lvD seed l n).length = n := by simp [lvD]
theorem lvD_succ (seed : List UInt8) (l n : Nat) : lvD seed l (n + 1) = lvD seed l n ++ [nodeV seed l n] := by
  simp [lvD, List.range_succ]
theorem lvD_all (seed : List UInt8) (l n : Nat) : ∀ d ∈ lvD seed l n, d.length = 16 := by
  intro d hd
  obtain ⟨k, _, rfl⟩ := List.mem_map.1 hd
  exact nodeV_len _ _ _
theorem lvD_get (seed : List UInt8) (l n k : Nat) (h : k < n) : (lvD seed l n)[k]? = some (nodeV seed l k) := by
  simp [lvD, h]
/-- The cells of a level. -/
def lvC (seed : List UInt8) (l n : Nat) : List PV := catD (lvD seed l n)
theorem lvC_len (seed : List UInt8) (l n : Nat) : (lvC seed l n).length = n * 16 := by
  rw [lvC, catD_len _ (lvD_all seed l n), lvD_len]
theorem lvC_zero (seed : List UInt8) (l : Nat) : lvC seed l 0 = [] := rfl
theorem lvC_succ (seed : List UInt8) (l n : Nat) : lvC seed l (n + 1) = lvC seed l n ++ (nodeV seed l n).map pbyte := by
  simp [lvC, catD, lvD_succ]
theorem lvC_elems (seed : List UInt8) (l n : Nat) : elemsOf 16 (lvC seed l n) n = (lvD seed l n).map pdg := by
  have := elems_dig (lvD seed l n) (lvD_all seed l n)
  rwa [lvD_len] at this
/-- The levels of a tree, in part. -/
def tbC (seed : List UInt8) (h n : Nat) : List PV := (List.range n).map fun j => .list 16 ((lvD seed j (2 ^ (h - j))).map pdg)
theorem tbC_len (seed : List UInt8) (h n : Nat) : (tbC seed h n).length = n := by simp [tbC]
theorem tbC_succ (seed : List UInt8) (h n : Nat) : tbC seed h (n + 1) = tbC seed h n ++ [.list 16 ((lvD seed n (2 ^ (h - n))).map pdg)] := by
  simp [tbC, List.range_succ]
theorem tbC_get (seed : List UInt8) (h n j : Nat) (hj : j < n) : (tbC seed h n)[j]? = some (.list 16 ((lvD seed j (2 ^ (h - j))).map pdg)) := by
  simp [tbC, hj]
theorem tbC_one (seed : List UInt8) (h : Nat) : tbC seed h 1 = [.list 16 ((lvD seed 0 (2 ^ h)).map pdg)] := rfl
theorem tbC_mem {seed : List UInt8} {h n : Nat} {u : PV} (hu : u ∈ tbC seed h n) : ∃ xs, u = .list 16 xs := by
  obtain ⟨j, _, rfl⟩ := List.mem_map.1 hu
  exact ⟨_, rfl⟩
theorem tbC_frz (seed : List UInt8) (h n : Nat) (m : Int) (cs : List PV) : (tbC seed h n).map (frz1 m cs) = tbC seed h n := by
  conv => rhs; rw [← List.map_id (tbC seed h n)]
  refine List.map_congr_left fun u hu => ?_
  obtain ⟨xs, rfl⟩ := tbC_mem hu
  rfl
attribute [local irreducible] lvC lvD tbC
theorem shl_op : ∀ h : _root_.Fin 7, IntKind.i64.wrap (1 * 2 ^ min h.val IntKind.i64.bits) = ((2 ^ h.val : Nat) : Int) := by decide +kernel
theorem pow_le64 (h : Nat) (hh : h ≤ 6) : 2 ^ h ≤ 64 := by
  have := Nat.pow_le_pow_right (n := 2) (by omega) hh
  exact this
set_option maxRecDepth 100000 in
set_option maxHeartbeats 8000000 in
theorem levels_r (G : Globs) (hG : G 1 = .iptr (KS.map pw) 0) (seed : List UInt8) (hs : seed.length ≤ 4000) (h : Nat) (hh : h ≤ 6) :
    PCalls Tryd.prog G 71 [pstr seed, pint .i64 h] [] (fun res H => ∃ T, res = .row T 1 (h + 1) ∧ H = [(T, ⟨58, true, 1, tbC seed h (h + 1)⟩)]) := by
  have hsh := shl_op ⟨h, by omega⟩
  simp only at hsh
  obtain ⟨w, hw⟩ : ∃ w, w = 2 ^ h := ⟨_, rfl⟩
  have hw64 := pow_le64 h hh
  rw [← hw] at hsh hw64
  (refine PCalls_f Tryd.func71 rfl Tryd.ntmps71 Tryd.results71 (by simp) fun fin hfin => ?_; have hnm : True := trivial; simp only [ev, simprocAttr])
  repeat' (first
    | (with_reducible apply W_seq_k; intro nx hnx)
    | (with_reducible first | refine wr 2035 ?_ | refine wd (id := 14) 2035 5 (.op 0 true (.op 1 true (.op 2 true (.op 3 true (.op 4 true (.op 5 true (.op 6 true (.op 7 true (.op 8 true (.op 9 true (.op 10 true (.op 11 true (.op 12 true (.op 13 true (.op 14 true (.op 15 true (.op 16 false (.op 17 false (.op 18 false (.op 19 true (.done))))))))))))))))))))) (by kernel_rfl) ?_)
    | ((with_reducible first | (apply WL_op; intro nx hnx) | refine Ev_out ?_ | refine wc ?_ | (apply popsD_op; intro nx hnx) | (refine popsD_alt ?_ ?_; intro nx hnx) | (refine pf hnm fun nm hnm => ?_; try simp only [fmb] at hnm) | (refine pm hnm fun nm hnm => ?_; try simp only [fmb] at hnm)); try (simp (maxSteps := 2000000) (disch := omega) only [ev, ↓evp, PV.cells, PV.one, PV.mem?, Value.cells, simprocAttr, hnm, Tryd.tf0, Tryd.tf1, Tryd.tf3, Tryd.tf4, Tryd.tf5, Tryd.tf9, Tryd.tf37, Tryd.tf58, Tryd.tf126, Tryd.call85, Tryd.call86]))
    | ((with_reducible first | apply W_block | apply W_scope | apply WL_nil | apply W_label | apply W_skip | apply W_exit | apply W_ret | apply popsD_done | exact popsD_stop) <;> try simp only [kks, simprocAttr])
    | (with_reducible apply pg <;> (intro hc; (try simp only [hcb, simprocAttr, ne_eq, forall_const] at hc); first | (exfalso; omega) | exact absurd trivial hc | skip))
    | (with_reducible apply hnx; clear hnx nx)
    | (with_reducible refine And.intro (by omega) ?_)
    | (with_reducible refine And.intro ?_ ?_)
    | (clear hnx nx; with_reducible apply hnx; clear hnx nx)
    | (clear hnx nx; clear hnx nx; with_reducible apply hnx; clear hnx nx))
  refine W_adopt_f 5 37 16 (by simp only [fr_getD_cons, Nat.reduceEqDiff, Nat.reduceLT, ↓reduceIte]) fun D0 hD0 => ?_
  refine W_loop_k (fun z τ => ∃ (i : Nat) (N : Int), i ≤ w ∧ z = w - i ∧
      τ = ⟨fr 64 [(5, .row N 16 i), (6, pint .i64 i), (0, pstr seed), (1, pint .i64 h)], [(N, ⟨37, true, 16, lvC seed 0 i⟩)]⟩) w
    ⟨fr 64 [(5, .row D0 16 0), (6, pint .i64 (0 : Nat)), (0, pstr seed), (1, pint .i64 h)], [(D0, ⟨37, true, 16, []⟩)]⟩ (by
    refine Wk_fr (by simp only [wkb, simprocAttr]) ?_
    exact Sub_refl (by simp [names])) ⟨0, D0, by omega, by omega, by rw [lvC_zero]⟩ ?_
  rintro z τ ⟨i, N, hi, rfl, rfl⟩ lp hlp
  by_cases hlt : i < w
  · have c1 := rleaf_c G hG seed hs i ⟨by omega, by omega⟩
    rw [show leafF (topF seed (i : Int)) = nodeV seed 0 i from rfl] at c1
    have hvl := nodeV_len seed 0 i
    have hsu := lvC_succ seed 0 i
    have hpl := lvC_len seed 0 i
    generalize nodeV seed 0 i = v at *
    have ho := all_one_byte v
    have hl2 : (v.map pbyte).length = 16 := by rw [List.length_map, hvl]
    have tv : List.take 16 (v.map pbyte) = v.map pbyte := List.take_of_length_le (by omega)
    repeat' (first
    | (with_reducible apply W_seq_k; intro nx hnx)
    | (with_reducible first | refine wr 2035 ?_ | refine wd (id := 14) 2035 5 (.op 0 true (.op 1 true (.op 2 true (.op 3 true (.op 4 true (.op 5 true (.op 6 true (.op 7 true (.op 8 true (.op 9 true (.op 10 true (.op 11 true (.op 12 true (.op 13 true (.op 14 true (.op 15 true (.op 16 false (.op 17 false (.op 18 false (.op 19 true (.done))))))))))))))))))))) (by kernel_rfl) ?_)
    | ((with_reducible first | (apply WL_op; intro nx hnx) | refine Ev_out ?_ | refine wc ?_ | (apply popsD_op; intro nx hnx) | (refine popsD_alt ?_ ?_; intro nx hnx) | (refine pf hnm fun nm hnm => ?_; try simp only [fmb] at hnm) | (refine pm hnm fun nm hnm => ?_; try simp only [fmb] at hnm)); try (simp (maxSteps := 2000000) (disch := omega) only [ev, ↓evp, PV.cells, PV.one, PV.mem?, Value.cells, simprocAttr, hnm, Tryd.tf0, Tryd.tf1, Tryd.tf3, Tryd.tf4, Tryd.tf5, Tryd.tf9, Tryd.tf37, Tryd.tf58, Tryd.tf126, Tryd.call85, Tryd.call86, hsh, ho, hl2, tv, hpl]))
    | ((with_reducible first | apply W_block | apply W_scope | apply WL_nil | apply W_label | apply W_skip | apply W_exit | apply W_ret | apply popsD_done | exact popsD_stop) <;> try simp only [kks, simprocAttr])
    | (with_reducible apply pg <;> (intro hc; (try simp only [hcb, simprocAttr, ne_eq, forall_const] at hc); first | (exfalso; omega) | exact absurd trivial hc | skip))
    | (with_reducible apply hnx; clear hnx nx)
    | (with_reducible refine And.intro (by omega) ?_)
    | (with_reducible refine And.intro ?_ ?_)
    | (with_reducible refine pe (c1) ?_)
    | (clear hnx nx; with_reducible apply hnx; clear hnx nx)
    | (clear hnx nx; clear hnx nx; with_reducible apply hnx; clear hnx nx))
    all_goals first
      | exact rfl
      | (exfalso
         omega)
      | (refine hlp _ (w - (i + 1)) _ (by omega) ?_ ⟨i + 1, nm, by omega, rfl, rfl⟩
         rw [hsu]
         refine Wk_fr (by simp only [wkb, simprocAttr]) ?_
         exact ⟨by simp, by simp [names, hnm]⟩)
  · obtain rfl : i = w := by omega
    have hpl := lvC_len seed 0 i
    have hel := lvC_elems seed 0 i
    have hll := lvD_len seed 0 i
    repeat' (first
    | (with_reducible apply W_seq_k; intro nx hnx)
    | (with_reducible first | refine wr 2035 ?_ | refine wd (id := 14) 2035 5 (.op 0 true (.op 1 true (.op 2 true (.op 3 true (.op 4 true (.op 5 true (.op 6 true (.op 7 true (.op 8 true (.op 9 true (.op 10 true (.op 11 true (.op 12 true (.op 13 true (.op 14 true (.op 15 true (.op 16 false (.op 17 false (.op 18 false (.op 19 true (.done))))))))))))))))))))) (by kernel_rfl) ?_)
    | ((with_reducible first | (apply WL_op; intro nx hnx) | refine Ev_out ?_ | refine wc ?_ | (apply popsD_op; intro nx hnx) | (refine popsD_alt ?_ ?_; intro nx hnx) | (refine pf hnm fun nm hnm => ?_; try simp only [fmb] at hnm) | (refine pm hnm fun nm hnm => ?_; try simp only [fmb] at hnm)); try (simp (maxSteps := 2000000) (disch := omega) only [ev, ↓evp, PV.cells, PV.one, PV.mem?, Value.cells, simprocAttr, hnm, Tryd.tf0, Tryd.tf1, Tryd.tf3, Tryd.tf4, Tryd.tf5, Tryd.tf9, Tryd.tf37, Tryd.tf58, Tryd.tf126, Tryd.call85, Tryd.call86, hsh]))
    | ((with_reducible first | apply W_block | apply W_scope | apply WL_nil | apply W_label | apply W_skip | apply W_exit | apply W_ret | apply popsD_done | exact popsD_stop) <;> try simp only [kks, simprocAttr])
    | (with_reducible apply pg <;> (intro hc; (try simp only [hcb, simprocAttr, ne_eq, forall_const] at hc); first | (exfalso; omega) | exact absurd trivial hc | skip))
    | (with_reducible apply hnx; clear hnx nx)
    | (with_reducible refine And.intro (by omega) ?_)
    | (with_reducible refine And.intro ?_ ?_)
    | (clear hnx nx; with_reducible apply hnx; clear hnx nx)
    | (clear hnx nx; clear hnx nx; with_reducible apply hnx; clear hnx nx))
    all_goals first
      | (exfalso
         omega)
      | skip
    obtain ⟨T, hT⟩ : ∃ T, T = nm := ⟨_, rfl⟩
    subst hT
    have hTN : ¬ T = N := by simp [hnm]
    have hNT : ¬ N = T := fun e => hTN e.symm
    refine W_x (τ := ⟨fr 64 [(8, pint .i64 (0 : Nat)), (7, .row T 1 1), (5, .list 16 ((lvD seed 0 i).map pdg)), (6, pint .i64 i), (0, pstr seed), (1, pint .i64 h)], [(T, ⟨58, true, 1, [.list 16 ((lvD seed 0 i).map pdg)]⟩)]⟩) (by
      have hf := Wx.freeze_f (G := G) (I := []) (N := 64) (l := [(8, pint .i64 (0 : Nat)), (7, .row T 1 1), (5, .row N 16 i), (6, pint .i64 i), (0, pstr seed), (1, pint .i64 h)]) (H := [(T, ⟨58, true, 1, [.row N 16 i]⟩), (N, ⟨37, true, 16, lvC seed 0 i⟩)]) N (o := ⟨37, true, 16, lvC seed 0 i⟩) (by simp) (by simp [look, hTN]) (by
        simp [frzOk, del, frz1, hTN, hpl, PV.one])
      simpa [PM.frz, frz1, frzH, del, hpl, hel, hTN, hNT] using hf) ?_
    have ht1 : tbC seed h 1 = [.list 16 ((lvD seed 0 i).map pdg)] := by rw [hw]; exact tbC_one seed h
    rw [← ht1]
    clear hnm
    refine W_loop_k (fun z τ => ∃ (l : Nat) (T : Int), l ≤ h ∧ z = h - l ∧
        τ = ⟨fr 64 [(8, pint .i64 l), (7, .row T 1 (l + 1)), (1, pint .i64 h)], [(T, ⟨58, true, 1, tbC seed h (l + 1)⟩)]⟩) h
      ⟨fr 64 [(8, pint .i64 (0 : Nat)), (7, .row T 1 1), (1, pint .i64 h)], [(T, ⟨58, true, 1, tbC seed h 1⟩)]⟩ (by
      refine Wk_fr (by simp only [wkb, simprocAttr]) ?_
      exact Sub_refl (by simp [names])) ⟨0, T, by omega, by omega, rfl⟩ ?_
    clear lp hlp
    rintro z τ ⟨l, T', hl, rfl, rfl⟩ lp hlp
    have htl := tbC_len seed h (l + 1)
    by_cases hlh : l < h
    · obtain ⟨V, hV⟩ : ∃ V, V = 2 ^ (h - (l + 1)) := ⟨_, rfl⟩
      have hVw : 2 ^ (h - l) = 2 * V := by rw [hV, show h - l = (h - (l + 1)) + 1 by omega, Nat.pow_succ, Nat.mul_comm]
      have hV64 : V ≤ 64 := by rw [hV]; exact pow_le64 _ (by omega)
      have hgl := tbC_get seed h (l + 1) l (by omega)
      rw [hVw] at hgl
      have hLl : ((lvD seed l (2 * V)).map pdg).length = 2 * V := by rw [List.length_map, lvD_len]
      repeat' (first
    | (with_reducible apply W_seq_k; intro nx hnx)
    | (with_reducible first | refine wr 2035 ?_ | refine wd (id := 14) 2035 5 (.op 0 true (.op 1 true (.op 2 true (.op 3 true (.op 4 true (.op 5 true (.op 6 true (.op 7 true (.op 8 true (.op 9 true (.op 10 true (.op 11 true (.op 12 true (.op 13 true (.op 14 true (.op 15 true (.op 16 false (.op 17 false (.op 18 false (.op 19 true (.done))))))))))))))))))))) (by kernel_rfl) ?_)
    | ((with_reducible first | (apply WL_op; intro nx hnx) | refine Ev_out ?_ | refine wc ?_ | (apply popsD_op; intro nx hnx) | (refine popsD_alt ?_ ?_; intro nx hnx) | (refine pf hnm fun nm hnm => ?_; try simp only [fmb] at hnm) | (refine pm hnm fun nm hnm => ?_; try simp only [fmb] at hnm)); try (simp (maxSteps := 2000000) (disch := omega) only [ev, ↓evp, PV.cells, PV.one, PV.mem?, Value.cells, simprocAttr, hnm, Tryd.tf0, Tryd.tf1, Tryd.tf3, Tryd.tf4, Tryd.tf5, Tryd.tf9, Tryd.tf37, Tryd.tf58, Tryd.tf126, Tryd.call85, Tryd.call86, hlh]))
    | ((with_reducible first | apply W_block | apply W_scope | apply WL_nil | apply W_label | apply W_skip | apply W_exit | apply W_ret | apply popsD_done | exact popsD_stop) <;> try simp only [kks, simprocAttr])
    | (with_reducible apply pg <;> (intro hc; (try simp only [hcb, simprocAttr, ne_eq, forall_const] at hc); first | (exfalso; omega) | exact absurd trivial hc | skip))
    | (with_reducible apply hnx; clear hnx nx)
    | (with_reducible refine And.intro (by omega) ?_)
    | (with_reducible refine And.intro ?_ ?_)
    | (clear hnx nx; with_reducible apply hnx; clear hnx nx)
    | (clear hnx nx; clear hnx nx; with_reducible apply hnx; clear hnx nx))
      all_goals first
        | (exfalso
           omega)
        | skip
      refine W_adopt_f 9 37 16 (by simp only [fr_getD_cons, Nat.reduceEqDiff, Nat.reduceLT, ↓reduceIte]) fun D1 hD1 => ?_
      have hD1T : ¬ D1 = T' := by simpa [names] using hD1
      refine W_loop_k (fun z τ => ∃ (m : Nat) (M : Int), m ≤ V ∧ z = V - m ∧ ¬ M = T' ∧
          τ = ⟨fr 64 [(9, .row M 16 m), (10, pint .i64 (2 * m : Nat)), (8, pint .i64 l), (7, .row T' 1 (l + 1)), (1, pint .i64 h)], [(M, ⟨37, true, 16, lvC seed (l + 1) m⟩), (T', ⟨58, true, 1, tbC seed h (l + 1)⟩)]⟩) V
        ⟨fr 64 [(9, .row D1 16 0), (10, pint .i64 (0 : Nat)), (8, pint .i64 l), (7, .row T' 1 (l + 1)), (1, pint .i64 h)], [(D1, ⟨37, true, 16, []⟩), (T', ⟨58, true, 1, tbC seed h (l + 1)⟩)]⟩ (by
        refine Wk_fr (by simp only [wkb, simprocAttr]) ?_
        exact Sub_refl (by simp [names, hD1T])) ⟨0, D1, by omega, by omega, hD1T, by rw [lvC_zero]⟩ ?_
      rintro z τ ⟨m, M, hm, rfl, hMT, rfl⟩ lp2 hlp2
      have hnm : ¬ M = T' ∧ ¬ T' = M := ⟨hMT, fun e => hMT e.symm⟩
      have hcl := lvC_len seed (l + 1) m
      by_cases hmV : m < V
      · have g1 : ((lvD seed l (2 * V)).map pdg)[2 * m]? = some (pdg (nodeV seed l (2 * m))) := by
          rw [List.getElem?_map, lvD_get _ _ _ _ (by omega)]
          rfl
        have g2 : ((lvD seed l (2 * V)).map pdg)[2 * m + 1]? = some (pdg (nodeV seed l (2 * m + 1))) := by
          rw [List.getElem?_map, lvD_get _ _ _ _ (by omega)]
          rfl
        have c1 := rnode_c G hG (nodeV seed l (2 * m)) (nodeV seed l (2 * m + 1)) (nodeV_len _ _ _) (nodeV_len _ _ _)
        rw [show nodeF (nodeV seed l (2 * m)) (nodeV seed l (2 * m + 1)) = nodeV seed (l + 1) m from rfl] at c1
        have lx := nodeV_len seed l (2 * m)
        have ly := nodeV_len seed l (2 * m + 1)
        have g3 : ((lvD seed l (2 * V)).map pdg).getD (2 * m) PV.junk = .agg ((nodeV seed l (2 * m)).map pbyte) := by rw [List.getD_eq_getElem?_getD, g1]; rfl
        have g4 : ((lvD seed l (2 * V)).map pdg).getD (2 * m + 1) PV.junk = .agg ((nodeV seed l (2 * m + 1)).map pbyte) := by rw [List.getD_eq_getElem?_getD, g2]; rfl
        generalize nodeV seed l (2 * m + 1) = y at *
        generalize nodeV seed l (2 * m) = x at *
        have lx2 : (x.map pbyte).length = 16 := by rw [List.length_map, lx]
        have ly2 : (y.map pbyte).length = 16 := by rw [List.length_map, ly]
        have tx : List.take 16 (x.map pbyte) = x.map pbyte := List.take_of_length_le (by omega)
        have ty : List.take 16 (y.map pbyte) = y.map pbyte := List.take_of_length_le (by omega)
        have hsu := lvC_succ seed (l + 1) m
        have hvl := nodeV_len seed (l + 1) m
        generalize nodeV seed (l + 1) m = v at *
        have ho := all_one_byte v
        have hl2 : (v.map pbyte).length = 16 := by rw [List.length_map, hvl]
        have tv : List.take 16 (v.map pbyte) = v.map pbyte := List.take_of_length_le (by omega)
        repeat' (first
    | (with_reducible apply W_seq_k; intro nx hnx)
    | (with_reducible first | refine wr 2035 ?_ | refine wd (id := 14) 2035 5 (.op 0 true (.op 1 true (.op 2 true (.op 3 true (.op 4 true (.op 5 true (.op 6 true (.op 7 true (.op 8 true (.op 9 true (.op 10 true (.op 11 true (.op 12 true (.op 13 true (.op 14 true (.op 15 true (.op 16 false (.op 17 false (.op 18 false (.op 19 true (.done))))))))))))))))))))) (by kernel_rfl) ?_)
    | ((with_reducible first | (apply WL_op; intro nx hnx) | refine Ev_out ?_ | refine wc ?_ | (apply popsD_op; intro nx hnx) | (refine popsD_alt ?_ ?_; intro nx hnx) | (refine pf hnm fun nm hnm => ?_; try simp only [fmb] at hnm) | (refine pm hnm fun nm hnm => ?_; try simp only [fmb] at hnm)); try (simp (maxSteps := 2000000) (disch := omega) only [ev, ↓evp, PV.cells, PV.one, PV.mem?, Value.cells, simprocAttr, hnm, Tryd.tf0, Tryd.tf1, Tryd.tf3, Tryd.tf4, Tryd.tf5, Tryd.tf9, Tryd.tf37, Tryd.tf58, Tryd.tf126, Tryd.call85, Tryd.call86, hgl, htl, hLl, hcl, g1, g2, g3, g4, lx2, ly2, tx, ty, ho, hl2, tv]))
    | ((with_reducible first | apply W_block | apply W_scope | apply WL_nil | apply W_label | apply W_skip | apply W_exit | apply W_ret | apply popsD_done | exact popsD_stop) <;> try simp only [kks, simprocAttr])
    | (with_reducible apply pg <;> (intro hc; (try simp only [hcb, simprocAttr, ne_eq, forall_const] at hc); first | (exfalso; omega) | exact absurd trivial hc | skip))
    | (with_reducible apply hnx; clear hnx nx)
    | (with_reducible refine And.intro (by omega) ?_)
    | (with_reducible refine And.intro ?_ ?_)
    | (with_reducible refine pe (c1) ?_)
    | (clear hnx nx; with_reducible apply hnx; clear hnx nx)
    | (clear hnx nx; clear hnx nx; with_reducible apply hnx; clear hnx nx))
        all_goals first
          | exact rfl
          | (exfalso
             omega)
          | (refine hlp2 _ (V - (m + 1)) _ (by omega) ?_ ⟨m + 1, nm, by omega, rfl, by simp [hnm], rfl⟩
             rw [hsu]
             have e2 : ((2 * m : Nat) : Int) + 2 = ((2 * (m + 1) : Nat) : Int) := by omega
             refine Wk_fr (by simp only [wkb, simprocAttr, e2]) ?_
             exact ⟨by simp, by simp [names, hnm]⟩)
      · obtain rfl : m = V := by omega
        have hel2 := lvC_elems seed (l + 1) m
        refine W_x (τ := ⟨fr 64 [(9, .list 16 ((lvD seed (l + 1) m).map pdg)), (10, pint .i64 (2 * m : Nat)), (8, pint .i64 l), (7, .row T' 1 (l + 1)), (1, pint .i64 h)], [(T', ⟨58, true, 1, tbC seed h (l + 1)⟩)]⟩) (by
          have hf := Wx.freeze_f (G := G) (I := []) (N := 64) (l := [(9, .row M 16 m), (10, pint .i64 (2 * m : Nat)), (8, pint .i64 l), (7, .row T' 1 (l + 1)), (1, pint .i64 h)]) (H := [(M, ⟨37, true, 16, lvC seed (l + 1) m⟩), (T', ⟨58, true, 1, tbC seed h (l + 1)⟩)]) M (o := ⟨37, true, 16, lvC seed (l + 1) m⟩) (by simp) (by simp [look]) (by
            simp only [frzOk, del, hnm, ↓reduceIte, List.forall_mem_cons, List.not_mem_nil, false_implies, implies_true, and_true]
            intro u hu
            obtain ⟨xs, rfl⟩ := tbC_mem hu
            rfl)
          simpa [PM.frz, frz1, frzH, del, hcl, hel2, hnm, tbC_frz] using hf) ?_
        have hts := tbC_succ seed h (l + 1)
        rw [← hV] at hts
        repeat' (first
    | (with_reducible apply W_seq_k; intro nx hnx)
    | (with_reducible first | refine wr 2035 ?_ | refine wd (id := 14) 2035 5 (.op 0 true (.op 1 true (.op 2 true (.op 3 true (.op 4 true (.op 5 true (.op 6 true (.op 7 true (.op 8 true (.op 9 true (.op 10 true (.op 11 true (.op 12 true (.op 13 true (.op 14 true (.op 15 true (.op 16 false (.op 17 false (.op 18 false (.op 19 true (.done))))))))))))))))))))) (by kernel_rfl) ?_)
    | ((with_reducible first | (apply WL_op; intro nx hnx) | refine Ev_out ?_ | refine wc ?_ | (apply popsD_op; intro nx hnx) | (refine popsD_alt ?_ ?_; intro nx hnx) | (refine pf hnm fun nm hnm => ?_; try simp only [fmb] at hnm) | (refine pm hnm fun nm hnm => ?_; try simp only [fmb] at hnm)); try (simp (maxSteps := 2000000) (disch := omega) only [ev, ↓evp, PV.cells, PV.one, PV.mem?, Value.cells, simprocAttr, hnm, Tryd.tf0, Tryd.tf1, Tryd.tf3, Tryd.tf4, Tryd.tf5, Tryd.tf9, Tryd.tf37, Tryd.tf58, Tryd.tf126, Tryd.call85, Tryd.call86, hgl, htl, hLl]))
    | ((with_reducible first | apply W_block | apply W_scope | apply WL_nil | apply W_label | apply W_skip | apply W_exit | apply W_ret | apply popsD_done | exact popsD_stop) <;> try simp only [kks, simprocAttr])
    | (with_reducible apply pg <;> (intro hc; (try simp only [hcb, simprocAttr, ne_eq, forall_const] at hc); first | (exfalso; omega) | exact absurd trivial hc | skip))
    | (with_reducible apply hnx; clear hnx nx)
    | (with_reducible refine And.intro (by omega) ?_)
    | (with_reducible refine And.intro ?_ ?_)
    | (clear hnx nx; with_reducible apply hnx; clear hnx nx)
    | (clear hnx nx; clear hnx nx; with_reducible apply hnx; clear hnx nx))
        all_goals first
          | exact rfl
          | (exfalso
             omega)
          | (refine hlp _ (h - (l + 1)) _ (by omega) ?_ ⟨l + 1, nm, by omega, rfl, rfl⟩
             rw [hts]
             refine Wk_fr (by simp only [wkb, simprocAttr]) ?_
             exact ⟨by simp, by simp [names, hnm]⟩)
    · obtain rfl : l = h := by omega
      repeat' (first
    | (with_reducible apply W_seq_k; intro nx hnx)
    | (with_reducible first | refine wr 2035 ?_ | refine wd (id := 14) 2035 5 (.op 0 true (.op 1 true (.op 2 true (.op 3 true (.op 4 true (.op 5 true (.op 6 true (.op 7 true (.op 8 true (.op 9 true (.op 10 true (.op 11 true (.op 12 true (.op 13 true (.op 14 true (.op 15 true (.op 16 false (.op 17 false (.op 18 false (.op 19 true (.done))))))))))))))))))))) (by kernel_rfl) ?_)
    | ((with_reducible first | (apply WL_op; intro nx hnx) | refine Ev_out ?_ | refine wc ?_ | (apply popsD_op; intro nx hnx) | (refine popsD_alt ?_ ?_; intro nx hnx) | (refine pf hnm fun nm hnm => ?_; try simp only [fmb] at hnm) | (refine pm hnm fun nm hnm => ?_; try simp only [fmb] at hnm)); try (simp (maxSteps := 2000000) (disch := omega) only [ev, ↓evp, PV.cells, PV.one, PV.mem?, Value.cells, simprocAttr, hnm, Tryd.tf0, Tryd.tf1, Tryd.tf3, Tryd.tf4, Tryd.tf5, Tryd.tf9, Tryd.tf37, Tryd.tf58, Tryd.tf126, Tryd.call85, Tryd.call86]))
    | ((with_reducible first | apply W_block | apply W_scope | apply WL_nil | apply W_label | apply W_skip | apply W_exit | apply W_ret | apply popsD_done | exact popsD_stop) <;> try simp only [kks, simprocAttr])
    | (with_reducible apply pg <;> (intro hc; (try simp only [hcb, simprocAttr, ne_eq, forall_const] at hc); first | (exfalso; omega) | exact absurd trivial hc | skip))
    | (with_reducible apply hnx; clear hnx nx)
    | (with_reducible refine And.intro (by omega) ?_)
    | (with_reducible refine And.intro ?_ ?_)
    | (clear hnx nx; with_reducible apply hnx; clear hnx nx)
    | (clear hnx nx; clear hnx nx; with_reducible apply hnx; clear hnx nx))
      all_goals first
        | exact rfl
        | (exfalso
           omega)
        | (refine hfin _ _ (Fin_ret1 rfl (Sub_refl (by simp [names])) ?_); simp only [cob, simprocAttr]
           exact ⟨T', rfl, rfl⟩)
end Go.PM

namespace Go.PM
open Go.Proofs
attribute [local irreducible] W PCalls pcall pcallI WL
set_option maxRecDepth 100000 in
set_option maxHeartbeats 8000000 in
theorem top_c (G : Globs) (hG : G 0 = .iptr (KS.map pw) 0) (seed : List UInt8) (hs : seed.length ≤ 4000) (k : Int) (hk : inR k) (c : Nat) (hc : c < 68) :
    PCalls Tryd.prog G 66 [pint .i64 c, .iptr [pint .i64 k] 0, .iptr [pstr seed] 0] [] (fun res H => res = .agg ((topF seed k c).map pbyte) ∧ H = []) := by
  have hcR : inR (c : Int) := ⟨by omega, by omega⟩
  have c1 := start_c G hG seed hs k c hk hcR
  have c2 := adv_c G hG k c 0 3 (startF seed k c) hk hcR (by omega) (by omega) (by omega) (by omega) (startF_len _ _ _)
  rw [show advF k c 0 (3 - 0 : Int).toNat (startF seed k c) = topF seed k c from rfl] at c2
  have htl := topF_len seed k c
  generalize topF seed k c = t at *
  generalize startF seed k c = v at *
  have hone := all_one_byte t
  have hl2 : (t.map pbyte).length = 16 := by rw [List.length_map, htl]
  have tk : List.take 16 (t.map pbyte) = t.map pbyte := List.take_of_length_le (by omega)
  (refine PCalls_f Tryd.func66 rfl Tryd.ntmps66 Tryd.results66 (by simp) fun fin hfin => ?_; have hnm : True := trivial; simp only [ev, simprocAttr])
  repeat' (first
    | (with_reducible apply W_seq_k; intro nx hnx)
    | (with_reducible first | refine wr 23 ?_ | refine wd (id := 1) 23 2 (.op 0 true (.op 1 true (.op 2 true (.op 3 true (.op 4 true (.op 5 true (.op 6 false (.op 7 false (.done))))))))) (by kernel_rfl) ?_)
    | ((with_reducible first | (apply WL_op; intro nx hnx) | refine Ev_out ?_ | refine wc ?_ | (apply popsD_op; intro nx hnx) | (refine popsD_alt ?_ ?_; intro nx hnx) | (refine pf hnm fun nm hnm => ?_; try simp only [fmb] at hnm) | (refine pm hnm fun nm hnm => ?_; try simp only [fmb] at hnm)); try (simp (maxSteps := 2000000) (disch := omega) only [ev, ↓evp, PV.cells, PV.one, PV.mem?, Value.cells, simprocAttr, hnm, Tryd.tf0, Tryd.tf3, Tryd.tf5, Tryd.tf9, Tryd.tf37, Tryd.call45, Tryd.call46, hone, hl2, tk]))
    | ((with_reducible first | apply W_block | apply W_scope | apply WL_nil | apply W_label | apply W_skip | apply W_exit | apply W_ret | apply popsD_done | exact popsD_stop) <;> try simp only [kks, simprocAttr])
    | (with_reducible apply hnx; clear hnx nx)
    | (with_reducible refine And.intro (by omega) ?_)
    | (with_reducible refine And.intro ?_ ?_)
    | (with_reducible refine pe (c1) ?_)
    | (with_reducible refine pe (c2) ?_)
    | (clear hnx nx; with_reducible apply hnx; clear hnx nx)
    | (clear hnx nx; clear hnx nx; with_reducible apply hnx; clear hnx nx))
  all_goals first
    | exact rfl
    | (exfalso
       omega)
    | (refine hfin _ _ ?_
       exact Fin_dig (n := nm) (by simp only [fr_getD_cons, Nat.reduceEqDiff, Nat.reduceLT, ↓reduceIte]) (by simp [look, hnm]) htl ⟨rfl, rfl⟩)
theorem Fin_digH {x : Tmp} {n : Int} {f : List UInt8} {R : PV → Heap → Prop} {σ : PState} {H : Heap} (hx : σ.frame.getD x .junk = .ptr n 0) (hl : look σ.heap n = some ⟨37, false, 0, f.map pbyte⟩) (hf : f.length = 16)
    (h2 : Sub H σ.heap) (h3 : R (.agg (f.map pbyte)) H) : Fin Tryd.prog [.cell x 37] R .ret σ := by
  have hone := all_one_byte f
  have htk : List.take 16 (f.map pbyte) = f.map pbyte := List.take_of_length_le (by rw [List.length_map]; omega)
  refine Fin_cell (res := .agg (f.map pbyte)) Tryd.tf37 (n := n) (off := 0) (o := ⟨37, false, 0, f.map pbyte⟩) hx hl ?_ h2 h3
  simp [pload, hf, htk, hone]
/-- The key of a node. -/
@[reducible] def keyV (l k : Nat) : Value := .agg #[.int .i64 l, .int .i64 k]
/-- The cells of the memory of nodes. -/
def memC (seed : List UInt8) (T : List (Nat × Nat)) : List PV := T.map fun x => .ent (.val (keyV x.1 x.2)) (.agg ((nodeV seed x.1 x.2).map pbyte))
theorem vsame_key (l k l' k' : Nat) : vsame (keyV l k) (keyV l' k') = some (decide ((l, k) = (l', k'))) := by
  simp only [vsame, keyV, List.toList_toArray, vsames, if_true, Option.some.injEq, Bool.and_true]
  rw [Bool.eq_iff_iff]
  simp only [Bool.and_eq_true, beq_iff_eq, decide_eq_true_eq, Prod.mk.injEq]
  omega
theorem mfind_mem (seed : List UInt8) (l k : Nat) : ∀ (T : List (Nat × Nat)) (i : Nat), (l, k) ∈ T → ∃ j, mfind (keyV l k) (memC seed T) i = some (some (i + j, .agg ((nodeV seed l k).map pbyte))) ∧ T[j]? = some (l, k)
  | [], _, h => absurd h (by simp)
  | x :: T, i, h => by
    obtain ⟨l', k'⟩ := x
    by_cases hx : (l, k) = (l', k')
    · cases hx
      refine ⟨0, ?_, rfl⟩
      simp only [memC, List.map_cons, mfind, vsame_key, decide_true, Nat.add_zero]
    · obtain ⟨j, h1, h2⟩ := mfind_mem seed l k T (i + 1) (by
        rcases List.mem_cons.1 h with h | h
        · exact absurd h hx
        · exact h)
      refine ⟨j + 1, ?_, by simpa using h2⟩
      simp only [memC, List.map_cons, mfind, vsame_key, decide_eq_false hx]
      rw [show i + (j + 1) = i + 1 + j by omega]
      exact h1
theorem mfind_not (seed : List UInt8) (l k : Nat) : ∀ (T : List (Nat × Nat)) (i : Nat), (l, k) ∉ T → mfind (keyV l k) (memC seed T) i = some none
  | [], _, _ => rfl
  | x :: T, i, h => by
    obtain ⟨l', k'⟩ := x
    have hx : ¬ (l, k) = (l', k') := fun e => h (e ▸ .head _)
    have ih := mfind_not seed l k T (i + 1) fun e => h (.tail _ e)
    simp only [memC, List.map_cons, mfind, vsame_key, decide_eq_false hx]
    exact ih
theorem memC_set (seed : List UInt8) (l k j : Nat) (T : List (Nat × Nat)) (h : T[j]? = some (l, k)) : (memC seed T).set j (.ent (.val (keyV l k)) (.agg ((nodeV seed l k).map pbyte))) = memC seed T := by
  refine List.ext_getElem? fun i => ?_
  rw [List.getElem?_set]
  split
  · rename_i e
    subst e
    have hj : (memC seed T)[j]? = some (.ent (.val (keyV l k)) (.agg ((nodeV seed l k).map pbyte))) := by simp [memC, h]
    have : j < (memC seed T).length := by
      rcases Nat.lt_or_ge j (memC seed T).length with h1 | h1
      · exact h1
      · rw [List.getElem?_eq_none h1] at hj
        cases hj
    rw [if_pos this, hj]
  · rfl
theorem memC_app (seed : List UInt8) (l k : Nat) (T : List (Nat × Nat)) : memC seed T ++ [.ent (.val (keyV l k)) (.agg ((nodeV seed l k).map pbyte))] = memC seed (T ++ [(l, k)]) := by
  simp [memC]
/-- What the function that nodes returns works on: itself, the memory, the seed. -/
@[reducible] def HM (a m M s : Int) (seed : List UInt8) (T : List (Nat × Nat)) : Heap :=
  [(a, ⟨90, false, 0, [.func 65 [.ptr m 0, .ptr s 0, .ptr a 0]]⟩), (m, ⟨118, false, 0, [.mp M]⟩), (M, ⟨118, false, 0, memC seed T⟩), (s, ⟨9, false, 0, [pstr seed]⟩)]
section
variable {G : Globs} {I : List Int}
end
end Go.PM

namespace Go.PM
open Go.Proofs
attribute [local irreducible] W PCalls pcall pcallI WL
theorem HM_ne {a m M s : Int} {seed : List UInt8} {T : List (Nat × Nat)} (nd : (names (HM a m M s seed T)).Nodup) :
    (a = m) = False ∧ (m = a) = False ∧ (a = M) = False ∧ (M = a) = False ∧ (a = s) = False ∧ (s = a) = False ∧ (m = M) = False ∧ (M = m) = False ∧ (m = s) = False ∧ (s = m) = False ∧ (M = s) = False ∧ (s = M) = False := by
  simp only [names, List.map_cons, List.map_nil, List.nodup_cons, List.mem_cons, List.not_mem_nil, or_false, not_or] at nd
  obtain ⟨⟨n1, n2, n3⟩, ⟨n4, n5⟩, n6, -⟩ := nd
  exact ⟨eq_false n1, eq_false fun e => n1 e.symm, eq_false n2, eq_false fun e => n2 e.symm, eq_false n3, eq_false fun e => n3 e.symm, eq_false n4, eq_false fun e => n4 e.symm, eq_false n5, eq_false fun e => n5 e.symm, eq_false n6, eq_false fun e => n6 e.symm⟩
/-- What a call of the function must answer. -/
@[reducible] def NRes (a m M s : Int) (seed : List UInt8) (l k : Nat) (res : PV) (H : Heap) : Prop := res = .agg ((nodeV seed l k).map pbyte) ∧ ∃ T', H = HM a m M s seed T'
set_option maxRecDepth 100000 in
set_option maxHeartbeats 8000000 in
theorem node_hit (G : Globs) (seed : List UInt8) (a m M s : Int) (l k : Nat) (T : List (Nat × Nat)) (hm : (l, k) ∈ T) :
    PCalls Tryd.prog G 65 [pint .i64 l, pint .i64 k, .ptr m 0, .ptr s 0, .ptr a 0] (HM a m M s seed T) (NRes a m M s seed l k) := by
  refine PCalls.nd fun nd => ?_
  have hne := HM_ne nd
  have hvl := nodeV_len seed l k
  have hone := all_one_byte (nodeV seed l k)
  have hl2 : ((nodeV seed l k).map pbyte).length = 16 := by rw [List.length_map, hvl]
  have tk : List.take 16 ((nodeV seed l k).map pbyte) = (nodeV seed l k).map pbyte := List.take_of_length_le (by omega)
  obtain ⟨Z, hZ⟩ : ∃ Z, Z = List.replicate 16 (pint .u8 0) := ⟨_, rfl⟩
  have hZ2 : [pint .u8 0, pint .u8 0, pint .u8 0, pint .u8 0, pint .u8 0, pint .u8 0, pint .u8 0, pint .u8 0, pint .u8 0, pint .u8 0, pint .u8 0, pint .u8 0, pint .u8 0, pint .u8 0, pint .u8 0, pint .u8 0] = Z := by rw [hZ]; rfl
  have hZl : Z.length = 16 := by rw [hZ]; rfl
  have hZd : List.drop 16 Z = [] := List.drop_of_length_le (by omega)
  have hZo : Z.all PV.one = true := by rw [hZ]; rfl
  obtain ⟨j, hm1, hm2⟩ := mfind_mem seed l k T 0 hm
  rw [Nat.zero_add] at hm1
  have hfin2 : NRes a m M s seed l k (.agg ((nodeV seed l k).map pbyte)) (HM a m M s seed T) := ⟨rfl, T, rfl⟩
  have hR : ∀ res H, NRes a m M s seed l k res H → NRes a m M s seed l k res H := fun _ _ h => h
  generalize NRes a m M s seed l k = R at *
  generalize nodeV seed l k = x at *
  (refine PCalls_f Tryd.func65 rfl Tryd.ntmps65 Tryd.results65 (by simp) fun fin hfin => ?_; have hnm : True := trivial; simp only [ev, simprocAttr])
  repeat' (first
    | (with_reducible apply W_seq_k; intro nx hnx)
    | (with_reducible first | refine wr 2015 ?_ | refine wd (id := 7) 2015 3 (.op 0 true (.op 1 true (.op 2 true (.op 3 true (.op 4 true (.op 7 true (.op 8 true (.alt 5 false (.alt 6 true (.alt 9 true (.op 10 true (.op 11 true (.op 12 false (.op 13 false (.op 14 false (.done)))))) .stop) (.alt 9 true (.op 10 true (.op 11 true (.alt 6 true (.op 12 false (.op 13 false (.op 14 false (.done)))) .stop))) .stop)) (.alt 6 true (.alt 5 false (.alt 9 true (.op 10 true (.op 11 true (.op 12 false (.op 13 false (.op 14 false (.done)))))) .stop) (.alt 9 true (.op 10 true (.op 11 true (.op 5 false (.op 12 false (.op 13 false (.op 14 false (.done))))))) .stop)) (.alt 9 true (.op 10 true (.op 11 true (.alt 5 false (.alt 6 true (.op 12 false (.op 13 false (.op 14 false (.done)))) .stop) (.alt 6 true (.op 5 false (.op 12 false (.op 13 false (.op 14 false (.done))))) .stop)))) .stop)))))))))) (by kernel_rfl) ?_)
    | ((with_reducible first | (apply WL_op; intro nx hnx) | refine Ev_out ?_ | refine wc ?_ | (apply popsD_op; intro nx hnx) | (refine popsD_alt ?_ ?_; intro nx hnx) | (refine pf hnm fun nm hnm => ?_; try simp only [fmb] at hnm) | (refine pm hnm fun nm hnm => ?_; try simp only [fmb] at hnm)); try (simp (maxSteps := 2000000) (disch := omega) only [ev, ↓evp, PV.cells, PV.one, PV.mem?, Value.cells, simprocAttr, hnm, Tryd.tf0, Tryd.tf1, Tryd.tf3, Tryd.tf4, Tryd.tf5, Tryd.tf37, Tryd.tf90, Tryd.tf109, Tryd.tf118, Tryd.tf119, Tryd.tf120, Tryd.call58, Tryd.call60, hne, hone, hl2, tk, hm1, hZ2, hZl, hZd, hZo]))
    | ((with_reducible first | apply W_block | apply W_scope | apply WL_nil | apply W_label | apply W_skip | apply W_exit | apply W_ret | apply popsD_done | exact popsD_stop) <;> try simp only [kks, simprocAttr])
    | (with_reducible apply pg <;> (intro hc; (try simp only [hcb, simprocAttr, ne_eq, forall_const] at hc); first | (exfalso; omega) | exact absurd trivial hc | skip))
    | (with_reducible apply hnx; clear hnx nx)
    | (with_reducible refine And.intro (by omega) ?_)
    | (with_reducible refine And.intro ?_ ?_)
    | (clear hnx nx; with_reducible apply hnx; clear hnx nx)
    | (clear hnx nx; clear hnx nx; with_reducible apply hnx; clear hnx nx))
  all_goals first
    | exact rfl
    | (exfalso
       omega)
    | (refine hfin _ _ ?_
       exact Fin_digH (n := _) (by simp only [fr_getD_cons, Nat.reduceEqDiff, Nat.reduceLT, ↓reduceIte]; rfl) (by simp [look, hnm]) hvl ⟨by simp, nd⟩ hfin2)
set_option maxRecDepth 100000 in
set_option maxHeartbeats 8000000 in
theorem node_zero (G : Globs) (hG : G 0 = .iptr (KS.map pw) 0) (seed : List UInt8) (hs : seed.length ≤ 4000) (a m M s : Int) (k : Nat) (hk : k ≤ 1000000) (T : List (Nat × Nat)) (hm : (0, k) ∉ T) :
    PCalls Tryd.prog G 65 [pint .i64 (0 : Nat), pint .i64 k, .ptr m 0, .ptr s 0, .ptr a 0] (HM a m M s seed T) (NRes a m M s seed 0 k) := by
  refine PCalls.nd fun nd => ?_
  have hne := HM_ne nd
  have hvl := nodeV_len seed 0 k
  have hone := all_one_byte (nodeV seed 0 k)
  have hl2 : ((nodeV seed 0 k).map pbyte).length = 16 := by rw [List.length_map, hvl]
  have tk : List.take 16 ((nodeV seed 0 k).map pbyte) = (nodeV seed 0 k).map pbyte := List.take_of_length_le (by omega)
  obtain ⟨Z, hZ⟩ : ∃ Z, Z = List.replicate 16 (pint .u8 0) := ⟨_, rfl⟩
  have hZ2 : [pint .u8 0, pint .u8 0, pint .u8 0, pint .u8 0, pint .u8 0, pint .u8 0, pint .u8 0, pint .u8 0, pint .u8 0, pint .u8 0, pint .u8 0, pint .u8 0, pint .u8 0, pint .u8 0, pint .u8 0, pint .u8 0] = Z := by rw [hZ]; rfl
  have hZl : Z.length = 16 := by rw [hZ]; rfl
  have hZd : List.drop 16 Z = [] := List.drop_of_length_le (by omega)
  have hZo : Z.all PV.one = true := by rw [hZ]; rfl
  have hm1 : mfind (.agg #[.int .i64 0, .int .i64 (k : Int)]) (memC seed T) 0 = some none := mfind_not seed 0 k T 0 hm
  have hap : memC seed T ++ [.ent (.val (.agg #[.int .i64 0, .int .i64 (k : Int)])) (.agg ((nodeV seed 0 k).map pbyte))] = memC seed (T ++ [(0, k)]) := memC_app seed 0 k T
  have hkR : inR (k : Int) := ⟨by omega, by omega⟩
  have c1 := leaf_c G hG 66 [.iptr [pint .i64 k] 0, .iptr [pstr seed] 0] (topF seed k) (fun c _ => topF_len _ _ _) (by kernel_rfl) (fun c hc => top_c G hG seed hs k hkR c hc)
  rw [show leafF (topF seed k) = nodeV seed 0 k from rfl] at c1
  have hfin2 : NRes a m M s seed 0 k (.agg ((nodeV seed 0 k).map pbyte)) (HM a m M s seed (T ++ [(0, k)])) := ⟨rfl, _, rfl⟩
  have hR : ∀ res H, NRes a m M s seed 0 k res H → NRes a m M s seed 0 k res H := fun _ _ h => h
  generalize NRes a m M s seed 0 k = R at *
  generalize nodeV seed 0 k = x at *
  (refine PCalls_f Tryd.func65 rfl Tryd.ntmps65 Tryd.results65 (by simp) fun fin hfin => ?_; have hnm : True := trivial; simp only [ev, simprocAttr])
  repeat' (first
    | (with_reducible apply W_seq_k; intro nx hnx)
    | (with_reducible first | refine wr 2015 ?_ | refine wd (id := 7) 2015 3 (.op 0 true (.op 1 true (.op 2 true (.op 3 true (.op 4 true (.op 7 true (.op 8 true (.alt 5 false (.alt 6 true (.alt 9 true (.op 10 true (.op 11 true (.op 12 false (.op 13 false (.op 14 false (.done)))))) .stop) (.alt 9 true (.op 10 true (.op 11 true (.alt 6 true (.op 12 false (.op 13 false (.op 14 false (.done)))) .stop))) .stop)) (.alt 6 true (.alt 5 false (.alt 9 true (.op 10 true (.op 11 true (.op 12 false (.op 13 false (.op 14 false (.done)))))) .stop) (.alt 9 true (.op 10 true (.op 11 true (.op 5 false (.op 12 false (.op 13 false (.op 14 false (.done))))))) .stop)) (.alt 9 true (.op 10 true (.op 11 true (.alt 5 false (.alt 6 true (.op 12 false (.op 13 false (.op 14 false (.done)))) .stop) (.alt 6 true (.op 5 false (.op 12 false (.op 13 false (.op 14 false (.done))))) .stop)))) .stop)))))))))) (by kernel_rfl) ?_)
    | ((with_reducible first | (apply WL_op; intro nx hnx) | refine Ev_out ?_ | refine wc ?_ | (apply popsD_op; intro nx hnx) | (refine popsD_alt ?_ ?_; intro nx hnx) | (refine pf hnm fun nm hnm => ?_; try simp only [fmb] at hnm) | (refine pm hnm fun nm hnm => ?_; try simp only [fmb] at hnm)); try (simp (maxSteps := 2000000) (disch := omega) only [ev, ↓evp, PV.cells, PV.one, PV.mem?, Value.cells, simprocAttr, hnm, Tryd.tf0, Tryd.tf1, Tryd.tf3, Tryd.tf4, Tryd.tf5, Tryd.tf37, Tryd.tf90, Tryd.tf109, Tryd.tf118, Tryd.tf119, Tryd.tf120, Tryd.call58, Tryd.call60, hne, hm1, hZ2, hZl, hZd, hZo]))
    | ((with_reducible first | apply W_block | apply W_scope | apply WL_nil | apply W_label | apply W_skip | apply W_exit | apply W_ret | apply popsD_done | exact popsD_stop) <;> try simp only [kks, simprocAttr])
    | (with_reducible apply pg <;> (intro hc; (try simp only [hcb, simprocAttr, ne_eq, forall_const] at hc); first | (exfalso; omega) | exact absurd trivial hc | skip))
    | (with_reducible apply hnx; clear hnx nx)
    | (with_reducible refine And.intro (by omega) ?_)
    | (with_reducible refine And.intro ?_ ?_)
    | (clear hnx nx; with_reducible apply hnx; clear hnx nx)
    | (clear hnx nx; clear hnx nx; with_reducible apply hnx; clear hnx nx))
  obtain ⟨N10, hN10⟩ : ∃ N, N = nm := ⟨_, rfl⟩
  subst hN10
  obtain ⟨N8, hN8⟩ : ∃ N, N = nm := ⟨_, rfl⟩
  subst hN8
  obtain ⟨N7, hN7⟩ : ∃ N, N = nm := ⟨_, rfl⟩
  subst hN7
  obtain ⟨N6, hN6⟩ : ∃ N, N = nm := ⟨_, rfl⟩
  subst hN6
  refine pcall_lend2 (R := fun res H => res = .agg (x.map pbyte) ∧ H = []) N6 s ⟨3, false, 0, [pint .i64 k]⟩ ⟨9, false, 0, [pstr seed]⟩ (by simp [look, hnm, hne]) (by simp [look, hnm, hne]) ?_ ?_
  · have e : ([PV.func 66 [.ptr N6 0, .ptr s 0]].map fun p => frz s [pstr seed] (frz N6 [pint .i64 k] p)) = [.func 66 [.iptr [pint .i64 k] 0, .iptr [pstr seed] 0]] := by
      simp [frz, frz1, hnm, hne]
    rw [e]
    exact c1
  · rintro _ _ ⟨rfl, rfl⟩
    refine ⟨rfl, Flat_all fun c hc => ?_, ?_⟩
    · obtain ⟨b, _, rfl⟩ := List.mem_map.1 hc
      exact ⟨_, rfl⟩
    refine Ev_in ?_
    repeat' (first
    | (with_reducible apply W_seq_k; intro nx hnx)
    | (with_reducible first | refine wr 2015 ?_ | refine wd (id := 7) 2015 3 (.op 0 true (.op 1 true (.op 2 true (.op 3 true (.op 4 true (.op 7 true (.op 8 true (.alt 5 false (.alt 6 true (.alt 9 true (.op 10 true (.op 11 true (.op 12 false (.op 13 false (.op 14 false (.done)))))) .stop) (.alt 9 true (.op 10 true (.op 11 true (.alt 6 true (.op 12 false (.op 13 false (.op 14 false (.done)))) .stop))) .stop)) (.alt 6 true (.alt 5 false (.alt 9 true (.op 10 true (.op 11 true (.op 12 false (.op 13 false (.op 14 false (.done)))))) .stop) (.alt 9 true (.op 10 true (.op 11 true (.op 5 false (.op 12 false (.op 13 false (.op 14 false (.done))))))) .stop)) (.alt 9 true (.op 10 true (.op 11 true (.alt 5 false (.alt 6 true (.op 12 false (.op 13 false (.op 14 false (.done)))) .stop) (.alt 6 true (.op 5 false (.op 12 false (.op 13 false (.op 14 false (.done))))) .stop)))) .stop)))))))))) (by kernel_rfl) ?_)
    | ((with_reducible first | (apply WL_op; intro nx hnx) | refine Ev_out ?_ | refine wc ?_ | (apply popsD_op; intro nx hnx) | (refine popsD_alt ?_ ?_; intro nx hnx) | (refine pf hnm fun nm hnm => ?_; try simp only [fmb] at hnm) | (refine pm hnm fun nm hnm => ?_; try simp only [fmb] at hnm)); try (simp (maxSteps := 2000000) (disch := omega) only [ev, ↓evp, PV.cells, PV.one, PV.mem?, Value.cells, simprocAttr, hnm, Tryd.tf0, Tryd.tf1, Tryd.tf3, Tryd.tf4, Tryd.tf5, Tryd.tf37, Tryd.tf90, Tryd.tf109, Tryd.tf118, Tryd.tf119, Tryd.tf120, Tryd.call58, Tryd.call60, hne, hone, hl2, tk, hm1, hap, hZ2, hZl, hZd, hZo]))
    | ((with_reducible first | apply W_block | apply W_scope | apply WL_nil | apply W_label | apply W_skip | apply W_exit | apply W_ret | apply popsD_done | exact popsD_stop) <;> try simp only [kks, simprocAttr])
    | (with_reducible apply pg <;> (intro hc; (try simp only [hcb, simprocAttr, ne_eq, forall_const] at hc); first | (exfalso; omega) | exact absurd trivial hc | skip))
    | (with_reducible apply hnx; clear hnx nx)
    | (with_reducible refine And.intro (by omega) ?_)
    | (with_reducible refine And.intro ?_ ?_)
    | (clear hnx nx; with_reducible apply hnx; clear hnx nx)
    | (clear hnx nx; clear hnx nx; with_reducible apply hnx; clear hnx nx))
    all_goals first
      | exact rfl
      | (exfalso
         omega)
      | (refine hfin _ _ ?_
         exact Fin_digH (n := N7) (H := HM a m M s seed (T ++ [(0, k)])) (by simp only [fr_getD_cons, Nat.reduceEqDiff, Nat.reduceLT, ↓reduceIte]) (by simp [look, hnm]) hvl ⟨by simp, nd⟩ hfin2)
set_option maxRecDepth 100000 in
set_option maxHeartbeats 8000000 in
theorem node_succ (G : Globs) (hG : G 0 = .iptr (KS.map pw) 0) (seed : List UInt8) (a m M s : Int) (l k n k1 k2 : Nat) (hl : l ≤ 5) (hk : k ≤ 1000000) (hn : n = l + 1) (hk1 : k1 = 2 * k) (hk2 : k2 = 2 * k + 1) (T : List (Nat × Nat)) (hm : (n, k) ∉ T)
    (ih1 : PCalls Tryd.prog G 65 [pint .i64 l, pint .i64 k1, .ptr m 0, .ptr s 0, .ptr a 0] (HM a m M s seed T) (NRes a m M s seed l k1))
    (ih2 : ∀ T', PCalls Tryd.prog G 65 [pint .i64 l, pint .i64 k2, .ptr m 0, .ptr s 0, .ptr a 0] (HM a m M s seed T') (NRes a m M s seed l k2)) :
    PCalls Tryd.prog G 65 [pint .i64 n, pint .i64 k, .ptr m 0, .ptr s 0, .ptr a 0] (HM a m M s seed T) (NRes a m M s seed n k) := by
  refine PCalls.nd fun nd => ?_
  have hne := HM_ne nd
  have hvl := nodeV_len seed n k
  have hone := all_one_byte (nodeV seed n k)
  have hl2 : ((nodeV seed n k).map pbyte).length = 16 := by rw [List.length_map, hvl]
  have tk : List.take 16 ((nodeV seed n k).map pbyte) = (nodeV seed n k).map pbyte := List.take_of_length_le (by omega)
  obtain ⟨Z, hZ⟩ : ∃ Z, Z = List.replicate 16 (pint .u8 0) := ⟨_, rfl⟩
  have hZ2 : [pint .u8 0, pint .u8 0, pint .u8 0, pint .u8 0, pint .u8 0, pint .u8 0, pint .u8 0, pint .u8 0, pint .u8 0, pint .u8 0, pint .u8 0, pint .u8 0, pint .u8 0, pint .u8 0, pint .u8 0, pint .u8 0] = Z := by rw [hZ]; rfl
  have hZl : Z.length = 16 := by rw [hZ]; rfl
  have hZd : List.drop 16 Z = [] := List.drop_of_length_le (by omega)
  have hZo : Z.all PV.one = true := by rw [hZ]; rfl
  have hm1 : mfind (.agg #[.int .i64 (n : Int), .int .i64 (k : Int)]) (memC seed T) 0 = some none := mfind_not seed n k T 0 hm
  have hap : ∀ T', memC seed T' ++ [.ent (.val (.agg #[.int .i64 (n : Int), .int .i64 (k : Int)])) (.agg ((nodeV seed n k).map pbyte))] = memC seed (T' ++ [(n, k)]) := memC_app seed n k
  have hmN : ∀ T', (n, k) ∉ T' → mfind (.agg #[.int .i64 (n : Int), .int .i64 (k : Int)]) (memC seed T') 0 = some none := fun T' h => mfind_not seed n k T' 0 h
  have hmY : ∀ T', (n, k) ∈ T' → ∃ j, mfind (.agg #[.int .i64 (n : Int), .int .i64 (k : Int)]) (memC seed T') 0 = some (some (j, .agg ((nodeV seed n k).map pbyte))) ∧
      (memC seed T').set j (.ent (.val (.agg #[.int .i64 (n : Int), .int .i64 (k : Int)])) (.agg ((nodeV seed n k).map pbyte))) = memC seed T' := fun T' h => by
    obtain ⟨j, h1, h2⟩ := mfind_mem seed n k T' 0 h
    rw [Nat.zero_add] at h1
    exact ⟨j, h1, memC_set seed n k j T' h2⟩
  have c1 := node_c G hG (nodeV seed l k1) (nodeV seed l k2) (nodeV_len _ _ _) (nodeV_len _ _ _)
  rw [show nodeF (nodeV seed l k1) (nodeV seed l k2) = nodeV seed n k by rw [hn, hk1, hk2]; rfl] at c1
  have hfin2 : ∀ T', NRes a m M s seed n k (.agg ((nodeV seed n k).map pbyte)) (HM a m M s seed T') := fun T' => ⟨rfl, T', rfl⟩
  have g0 : ¬ n = 0 := by omega
  have hca : callable Tryd.prog 65 = true := by kernel_rfl
  have g1 : (n : Int) - 1 = (l : Int) := by omega
  have g2 : 2 * (k : Int) = (k1 : Int) := by omega
  have g3 : (k1 : Int) + 1 = (k2 : Int) := by omega
  generalize NRes a m M s seed n k = R at *
  generalize nodeV seed n k = x at *
  (refine PCalls_f Tryd.func65 rfl Tryd.ntmps65 Tryd.results65 (by simp) fun fin hfin => ?_; have hnm : True := trivial; simp only [ev, simprocAttr])
  repeat' (first
    | (with_reducible apply W_seq_k; intro nx hnx)
    | (with_reducible first | refine wr 2015 ?_ | refine wd (id := 7) 2015 3 (.op 0 true (.op 1 true (.op 2 true (.op 3 true (.op 4 true (.op 7 true (.op 8 true (.alt 5 false (.alt 6 true (.alt 9 true (.op 10 true (.op 11 true (.op 12 false (.op 13 false (.op 14 false (.done)))))) .stop) (.alt 9 true (.op 10 true (.op 11 true (.alt 6 true (.op 12 false (.op 13 false (.op 14 false (.done)))) .stop))) .stop)) (.alt 6 true (.alt 5 false (.alt 9 true (.op 10 true (.op 11 true (.op 12 false (.op 13 false (.op 14 false (.done)))))) .stop) (.alt 9 true (.op 10 true (.op 11 true (.op 5 false (.op 12 false (.op 13 false (.op 14 false (.done))))))) .stop)) (.alt 9 true (.op 10 true (.op 11 true (.alt 5 false (.alt 6 true (.op 12 false (.op 13 false (.op 14 false (.done)))) .stop) (.alt 6 true (.op 5 false (.op 12 false (.op 13 false (.op 14 false (.done))))) .stop)))) .stop)))))))))) (by kernel_rfl) ?_)
    | ((with_reducible first | (apply WL_op; intro nx hnx) | refine Ev_out ?_ | refine wc ?_ | (apply popsD_op; intro nx hnx) | (refine popsD_alt ?_ ?_; intro nx hnx) | (refine pf hnm fun nm hnm => ?_; try simp only [fmb] at hnm) | (refine pm hnm fun nm hnm => ?_; try simp only [fmb] at hnm)); try (simp (maxSteps := 2000000) (disch := omega) only [ev, ↓evp, PV.cells, PV.one, PV.mem?, Value.cells, simprocAttr, hnm, Tryd.tf0, Tryd.tf1, Tryd.tf3, Tryd.tf4, Tryd.tf5, Tryd.tf37, Tryd.tf90, Tryd.tf109, Tryd.tf118, Tryd.tf119, Tryd.tf120, Tryd.call58, Tryd.call60, hne, hvl, hone, hl2, tk, hm1, hZ2, hZl, hZd, hZo, hca, g0, g1, g2, g3]))
    | ((with_reducible first | apply W_block | apply W_scope | apply WL_nil | apply W_label | apply W_skip | apply W_exit | apply W_ret | apply popsD_done | exact popsD_stop) <;> try simp only [kks, simprocAttr])
    | (with_reducible apply pg <;> (intro hc; (try simp only [hcb, simprocAttr, ne_eq, forall_const] at hc); first | (exfalso; omega) | exact absurd trivial hc | skip))
    | (with_reducible apply hnx; clear hnx nx)
    | (with_reducible refine And.intro (by omega) ?_)
    | (with_reducible refine And.intro ?_ ?_)
    | (with_reducible refine pe (c1) ?_)
    | ((refine pcall_mid [_, _, _, _] (HM a m M s seed _) [] rfl ih1 ?_; rintro _ _ ⟨rfl, T1, rfl⟩; refine Ev_in ?_))
    | ((refine pcall_mid [_, _, _, _] (HM a m M s seed _) [] rfl (ih2 _) ?_; rintro _ _ ⟨rfl, T2, rfl⟩; refine Ev_in ?_))
    | (clear hnx nx; with_reducible apply hnx; clear hnx nx)
    | (clear hnx nx; clear hnx nx; with_reducible apply hnx; clear hnx nx))
  all_goals first
    | exact rfl
    | (by_cases hm2 : (n, k) ∈ T2
       · obtain ⟨j, y1, y2⟩ := hmY T2 hm2
         simp only [y1]
         repeat' (first
    | (with_reducible apply W_seq_k; intro nx hnx)
    | (with_reducible first | refine wr 2015 ?_ | refine wd (id := 7) 2015 3 (.op 0 true (.op 1 true (.op 2 true (.op 3 true (.op 4 true (.op 7 true (.op 8 true (.alt 5 false (.alt 6 true (.alt 9 true (.op 10 true (.op 11 true (.op 12 false (.op 13 false (.op 14 false (.done)))))) .stop) (.alt 9 true (.op 10 true (.op 11 true (.alt 6 true (.op 12 false (.op 13 false (.op 14 false (.done)))) .stop))) .stop)) (.alt 6 true (.alt 5 false (.alt 9 true (.op 10 true (.op 11 true (.op 12 false (.op 13 false (.op 14 false (.done)))))) .stop) (.alt 9 true (.op 10 true (.op 11 true (.op 5 false (.op 12 false (.op 13 false (.op 14 false (.done))))))) .stop)) (.alt 9 true (.op 10 true (.op 11 true (.alt 5 false (.alt 6 true (.op 12 false (.op 13 false (.op 14 false (.done)))) .stop) (.alt 6 true (.op 5 false (.op 12 false (.op 13 false (.op 14 false (.done))))) .stop)))) .stop)))))))))) (by kernel_rfl) ?_)
    | ((with_reducible first | (apply WL_op; intro nx hnx) | refine Ev_out ?_ | refine wc ?_ | (apply popsD_op; intro nx hnx) | (refine popsD_alt ?_ ?_; intro nx hnx) | (refine pf hnm fun nm hnm => ?_; try simp only [fmb] at hnm) | (refine pm hnm fun nm hnm => ?_; try simp only [fmb] at hnm)); try (simp (maxSteps := 2000000) (disch := omega) only [ev, ↓evp, PV.cells, PV.one, PV.mem?, Value.cells, simprocAttr, hnm, Tryd.tf0, Tryd.tf1, Tryd.tf3, Tryd.tf4, Tryd.tf5, Tryd.tf37, Tryd.tf90, Tryd.tf109, Tryd.tf118, Tryd.tf119, Tryd.tf120, Tryd.call58, Tryd.call60, hne, hone, hl2, tk, y2, hZ2, hZl, hZd, hZo]))
    | ((with_reducible first | apply W_block | apply W_scope | apply WL_nil | apply W_label | apply W_skip | apply W_exit | apply W_ret | apply popsD_done | exact popsD_stop) <;> try simp only [kks, simprocAttr])
    | (with_reducible apply pg <;> (intro hc; (try simp only [hcb, simprocAttr, ne_eq, forall_const] at hc); first | (exfalso; omega) | exact absurd trivial hc | skip))
    | (with_reducible apply hnx; clear hnx nx)
    | (with_reducible refine And.intro (by omega) ?_)
    | (with_reducible refine And.intro ?_ ?_)
    | (clear hnx nx; with_reducible apply hnx; clear hnx nx)
    | (clear hnx nx; clear hnx nx; with_reducible apply hnx; clear hnx nx))
         all_goals first
           | exact rfl
           | (refine hfin _ _ ?_
              exact Fin_digH (n := _) (H := HM a m M s seed T2) (by simp only [fr_getD_cons, Nat.reduceEqDiff, Nat.reduceLT, ↓reduceIte]; rfl) (by simp [look, hnm]) hvl ⟨by simp, nd⟩ (hfin2 T2))
       · have y1 := hmN T2 hm2
         simp only [y1]
         have y2 := hap T2
         repeat' (first
    | (with_reducible apply W_seq_k; intro nx hnx)
    | (with_reducible first | refine wr 2015 ?_ | refine wd (id := 7) 2015 3 (.op 0 true (.op 1 true (.op 2 true (.op 3 true (.op 4 true (.op 7 true (.op 8 true (.alt 5 false (.alt 6 true (.alt 9 true (.op 10 true (.op 11 true (.op 12 false (.op 13 false (.op 14 false (.done)))))) .stop) (.alt 9 true (.op 10 true (.op 11 true (.alt 6 true (.op 12 false (.op 13 false (.op 14 false (.done)))) .stop))) .stop)) (.alt 6 true (.alt 5 false (.alt 9 true (.op 10 true (.op 11 true (.op 12 false (.op 13 false (.op 14 false (.done)))))) .stop) (.alt 9 true (.op 10 true (.op 11 true (.op 5 false (.op 12 false (.op 13 false (.op 14 false (.done))))))) .stop)) (.alt 9 true (.op 10 true (.op 11 true (.alt 5 false (.alt 6 true (.op 12 false (.op 13 false (.op 14 false (.done)))) .stop) (.alt 6 true (.op 5 false (.op 12 false (.op 13 false (.op 14 false (.done))))) .stop)))) .stop)))))))))) (by kernel_rfl) ?_)
    | ((with_reducible first | (apply WL_op; intro nx hnx) | refine Ev_out ?_ | refine wc ?_ | (apply popsD_op; intro nx hnx) | (refine popsD_alt ?_ ?_; intro nx hnx) | (refine pf hnm fun nm hnm => ?_; try simp only [fmb] at hnm) | (refine pm hnm fun nm hnm => ?_; try simp only [fmb] at hnm)); try (simp (maxSteps := 2000000) (disch := omega) only [ev, ↓evp, PV.cells, PV.one, PV.mem?, Value.cells, simprocAttr, hnm, Tryd.tf0, Tryd.tf1, Tryd.tf3, Tryd.tf4, Tryd.tf5, Tryd.tf37, Tryd.tf90, Tryd.tf109, Tryd.tf118, Tryd.tf119, Tryd.tf120, Tryd.call58, Tryd.call60, hne, hone, hl2, tk, y2, hZ2, hZl, hZd, hZo]))
    | ((with_reducible first | apply W_block | apply W_scope | apply WL_nil | apply W_label | apply W_skip | apply W_exit | apply W_ret | apply popsD_done | exact popsD_stop) <;> try simp only [kks, simprocAttr])
    | (with_reducible apply pg <;> (intro hc; (try simp only [hcb, simprocAttr, ne_eq, forall_const] at hc); first | (exfalso; omega) | exact absurd trivial hc | skip))
    | (with_reducible apply hnx; clear hnx nx)
    | (with_reducible refine And.intro (by omega) ?_)
    | (with_reducible refine And.intro ?_ ?_)
    | (clear hnx nx; with_reducible apply hnx; clear hnx nx)
    | (clear hnx nx; clear hnx nx; with_reducible apply hnx; clear hnx nx))
         all_goals first
           | exact rfl
           | (refine hfin _ _ ?_
              exact Fin_digH (n := _) (H := HM a m M s seed (T2 ++ [(n, k)])) (by simp only [fr_getD_cons, Nat.reduceEqDiff, Nat.reduceLT, ↓reduceIte]; rfl) (by simp [look, hnm]) hvl ⟨by simp, nd⟩ (hfin2 _)))
theorem node_at (G : Globs) (hG : G 0 = .iptr (KS.map pw) 0) (seed : List UInt8) (hs : seed.length ≤ 4000) (a m M s : Int) :
    ∀ (l k : Nat) (T : List (Nat × Nat)), l ≤ 6 → (k + 1) * 2 ^ l ≤ 1000000 → PCalls Tryd.prog G 65 [pint .i64 l, pint .i64 k, .ptr m 0, .ptr s 0, .ptr a 0] (HM a m M s seed T) (NRes a m M s seed l k)
  | l, k, T, hl, hk => by
    by_cases hm : (l, k) ∈ T
    · exact node_hit G seed a m M s l k T hm
    · match l, hl, hk, hm with
      | 0, hl, hk, hm => exact node_zero G hG seed hs a m M s k (by omega) T hm
      | l + 1, hl, hk, hm =>
        have hp : 0 < 2 ^ l := Nat.pow_pos (by omega)
        have hb : (2 * k + 1 + 1) * 2 ^ l ≤ 1000000 := by
          rw [Nat.pow_succ, Nat.mul_comm (2 ^ l) 2, ← Nat.mul_assoc] at hk
          rw [show 2 * k + 1 + 1 = (k + 1) * 2 by omega]
          exact hk
        have hb2 : (2 * k + 1) * 2 ^ l ≤ 1000000 := Nat.le_trans (Nat.mul_le_mul_right _ (by omega)) hb
        have hk6 : k ≤ 1000000 := by
          have : 2 * k + 1 + 1 ≤ (2 * k + 1 + 1) * 2 ^ l := Nat.le_mul_of_pos_right _ hp
          omega
        exact node_succ G hG seed a m M s l k (l + 1) (2 * k) (2 * k + 1) (by omega) hk6 rfl rfl rfl T hm (node_at G hG seed hs a m M s l (2 * k) T (by omega) hb2) (fun T' => node_at G hG seed hs a m M s l (2 * k + 1) T' (by omega) hb)
end Go.PM

namespace Go.PM
open Go.Proofs
attribute [local irreducible] W PCalls pcall pcallI WL
theorem levels_c (G : Globs) (hG : G 1 = .iptr (KS.map pw) 0) (seed : List UInt8) (hs : seed.length ≤ 4000) (h : Nat) (hh : h ≤ 6) :
    PCalls Tryd.prog G 71 [pstr seed, pint .i64 h] [] (fun res H => res = .list 1 (tbC seed h (h + 1)) ∧ H = []) :=
  (levels_r G hG seed hs h hh).frz_row (xs := tbC seed h (h + 1)) fun res H hR => by
    obtain ⟨N, h1, h2⟩ := hR
    exact ⟨N, 58, by rw [tbC_len]; exact h1, h2⟩
end Go.PM

namespace Go.PM
open Go.Proofs
attribute [local irreducible] W PCalls pcall pcallI WL
set_option maxRecDepth 100000 in
set_option maxHeartbeats 8000000 in
theorem nodes_c (G : Globs) (seed : List UInt8) : PCalls Tryd.prog G 41 [pstr seed] [] (fun res H => ∃ a m M s, res = .func 65 [.ptr m 0, .ptr s 0, .ptr a 0] ∧ H = HM a m M s seed []) := by
  (refine PCalls_f Tryd.func41 rfl Tryd.ntmps41 Tryd.results41 (by simp) fun fin hfin => ?_; have hnm : True := trivial; simp only [ev, simprocAttr])
  repeat' (first
    | (with_reducible apply W_seq_k; intro nx hnx)
    | (with_reducible first | refine wr 31 ?_)
    | ((with_reducible first | (apply WL_op; intro nx hnx) | refine Ev_out ?_ | refine wc ?_ | (refine pf hnm fun nm hnm => ?_; try simp only [fmb] at hnm) | (refine pm hnm fun nm hnm => ?_; try simp only [fmb] at hnm)); try (simp (maxSteps := 2000000) (disch := omega) only [ev, ↓evp, PV.cells, PV.one, PV.mem?, Value.cells, simprocAttr, hnm, Tryd.tf0, Tryd.tf9, Tryd.tf90, Tryd.tf118]))
    | ((with_reducible first | apply W_block | apply W_scope | apply WL_nil | apply W_label | apply W_skip | apply W_exit | apply W_ret) <;> try simp only [kks, simprocAttr])
    | (with_reducible apply hnx; clear hnx nx)
    | (with_reducible refine And.intro (by omega) ?_)
    | (with_reducible refine And.intro ?_ ?_)
    | (clear hnx nx; with_reducible apply hnx; clear hnx nx)
    | (clear hnx nx; clear hnx nx; with_reducible apply hnx; clear hnx nx))
  obtain ⟨NA, hNA⟩ : ∃ N, N = nm := ⟨_, rfl⟩
  subst hNA
  obtain ⟨NM, hNM⟩ : ∃ N, N = nm := ⟨_, rfl⟩
  subst hNM
  obtain ⟨NP, hNP⟩ : ∃ N, N = nm := ⟨_, rfl⟩
  subst hNP
  obtain ⟨NS, hNS⟩ : ∃ N, N = nm := ⟨_, rfl⟩
  subst hNS
  refine hfin _ _ (Fin_ret1 rfl (Sub_refl (by simp [names, hnm])) ?_); simp only [cob, simprocAttr]
  exact ⟨NA, NM, NP, NS, rfl, rfl⟩
end Go.PM

namespace Go.PM
open Go.Proofs
attribute [local irreducible] W PCalls pcall pcallI WL
/-- The neighbour of a node. -/
def sib (i : Nat) : Nat := if i % 2 = 1 then i - 1 else i + 1
/-- What a signature tells of a chain. -/
def sigV (seed : List UInt8) (i : Int) (dg : List Nat) (c : Nat) : List UInt8 := advF i c 0 ((dg.getD c 0 : Nat) - 0 : Int).toNat (startF seed i c)
theorem sigV_len (seed : List UInt8) (i : Int) (dg : List Nat) (c : Nat) : (sigV seed i dg c).length = 16 := advF_len _ _ _ _ _ (startF_len _ _ _)
/-- The neighbours on the way to the root. -/
def patV (seed : List UInt8) (i l : Nat) : List UInt8 := nodeV seed l (sib (i / 2 ^ l))
theorem patV_len (seed : List UInt8) (i l : Nat) : (patV seed i l).length = 16 := nodeV_len _ _ _
/-- A signature that is made. -/
def sigT (seed : List UInt8) (h i : Nat) (m : List UInt8) : List UInt8 :=
  intB i ++ catF (sigV seed i (digF (digestF (nodeV seed h 0) i m))) 68 ++ catF (patV seed i) h
/-- What Sign answers. -/
def signF (seed : List UInt8) (n i : Int) (m : List UInt8) : List UInt8 × Int :=
  if ¬ (seed.length = 32 ∧ 0 ≤ n ∧ n ≤ 6) then ([], 1) else if i < 0 ∨ 2 ^ n.toNat ≤ i then ([], 23) else (sigT seed n.toNat i.toNat m, 0)
theorem digF_get (d : List UInt8) (c : Nat) (h : c < 68) : ((digF d).map pn')[c]? = some (pint .i64 ((digF d).getD c 0 : Nat)) := by
  rw [List.getElem?_map, List.getD_eq_getElem?_getD, List.getElem?_eq_getElem (by rw [digF_len]; exact h)]
  rfl
theorem digF_lt (d : List UInt8) (c : Nat) : (digF d).getD c 0 < 4 := by
  rw [List.getD_eq_getElem?_getD]
  cases h : (digF d)[c]? with
  | none => simp
  | some x =>
    have hm := List.mem_of_getElem? h
    simp only [digF, List.mem_append, List.mem_map, chk, List.mem_cons, List.not_mem_nil, or_false] at hm
    simp only [Option.getD_some]
    rcases hm with ⟨j, _, rfl⟩ | rfl | rfl | rfl | rfl
    · exact dig_lt _ _
    all_goals omega
set_option maxRecDepth 100000 in
set_option maxHeartbeats 8000000 in
theorem rsign_c (G : Globs) (hG : G 1 = .iptr (KS.map pw) 0) (seed : List UInt8) (n i : Int) (m : List UInt8) (hs : seed.length ≤ 4000) (hi : inR i) (hm : m.length ≤ 4000) :
    PCalls Tryd.prog G 48 [pstr seed, pint .i64 n, pint .i64 i, pstr m] [] (fun res H => res = .tuple [pstr (signF seed n i m).1, pint .i64 (signF seed n i m).2] ∧ H = []) := by
  have c0 := fits_c G seed n (by omega)
  (refine PCalls_f Tryd.func48 rfl Tryd.ntmps48 Tryd.results48 (by simp) fun fin hfin => ?_; have hnm : True := trivial; simp only [ev, simprocAttr])
  by_cases hf : seed.length = 32 ∧ 0 ≤ n ∧ n ≤ 6
  · rw [decide_eq_true hf] at c0
    obtain ⟨h, rfl⟩ : ∃ h : Nat, n = h := ⟨n.toNat, by omega⟩
    have hh : h ≤ 6 := by omega
    have hsh := shl_op ⟨h, by omega⟩
    simp only at hsh
    obtain ⟨w, hw⟩ : ∃ w, w = 2 ^ h := ⟨_, rfl⟩
    have hw64 := pow_le64 h hh
    rw [← hw] at hsh hw64
    by_cases hb : i < 0 ∨ (w : Int) ≤ i
    · have hp : signF seed h i m = ([], 23) := by
        rw [signF, if_neg (by simpa using hf), if_pos (by rw [Int.toNat_natCast]; rw [hw] at hb; exact_mod_cast hb)]
      simp only [hp] at hfin
      repeat' (first
    | (with_reducible apply W_seq_k; intro nx hnx)
    | (with_reducible first | refine wr 261903 ?_ | refine wd (id := 14) 261903 3 (.op 0 true (.op 1 true (.op 2 true (.op 3 true (.op 4 true (.op 5 true (.op 6 true (.op 7 true (.op 8 true (.op 9 true (.op 10 true (.op 11 false (.op 12 false (.op 13 true (.op 14 true (.done)))))))))))))))) (by kernel_rfl) ?_)
    | ((with_reducible first | (apply WL_op; intro nx hnx) | refine Ev_out ?_ | refine wc ?_ | (apply popsD_op; intro nx hnx) | (refine popsD_alt ?_ ?_; intro nx hnx) | (refine pf hnm fun nm hnm => ?_; try simp only [fmb] at hnm) | (refine pm hnm fun nm hnm => ?_; try simp only [fmb] at hnm)); try (simp (maxSteps := 2000000) (disch := omega) only [ev, ↓evp, PV.cells, PV.one, PV.mem?, Value.cells, simprocAttr, hnm, Tryd.tf0, Tryd.tf3, Tryd.tf4, Tryd.tf5, Tryd.tf9, Tryd.tf22, Tryd.tf27, Tryd.tf28, Tryd.tf37, Tryd.tf58, Tryd.tf126, Tryd.call51, Tryd.call70, Tryd.call71, Tryd.call72, Tryd.call73, Tryd.call74, Tryd.call75, Tryd.call76, hsh]))
    | ((with_reducible first | apply W_block | apply W_scope | apply WL_nil | apply W_label | apply W_skip | apply W_exit | apply W_ret | apply popsD_done | exact popsD_stop) <;> try simp only [kks, simprocAttr])
    | (with_reducible apply pg <;> (intro hc; (try simp only [hcb, simprocAttr, ne_eq, forall_const] at hc); first | (exfalso; omega) | exact absurd trivial hc | skip))
    | (with_reducible apply hnx; clear hnx nx)
    | (with_reducible refine And.intro (by omega) ?_)
    | (with_reducible refine And.intro ?_ ?_)
    | (with_reducible refine pe (c0) ?_)
    | (clear hnx nx; with_reducible apply hnx; clear hnx nx)
    | (clear hnx nx; clear hnx nx; with_reducible apply hnx; clear hnx nx))
      all_goals first
        | (exfalso
           exact hc trivial)
        | exact rfl
        | (exfalso
           omega)
        | (intro hh
           exfalso
           simp at hh
           done)
        | (intro hh
           exfalso
           simp at hh
           omega)
        | (refine hfin _ _ (Fin_ret2 rfl rfl (Sub_nil _) ?_); simp only [cob, simprocAttr]; first | trivial | exact ⟨rfl, by trivial⟩ | (simp; done) | (simp; omega))
    · have hp : signF seed h i m = (sigT seed h i.toNat m, 0) := by
        rw [signF, if_neg (by simpa using hf), if_neg (by rw [Int.toNat_natCast]; rw [hw] at hb; exact_mod_cast hb), Int.toNat_natCast]
      simp only [hp] at hfin
      clear hp
      obtain ⟨k, rfl⟩ : ∃ k : Nat, i = k := ⟨i.toNat, by omega⟩
      have hkw : k < w := by omega
      simp only [Int.toNat_natCast] at hfin
      have hk0 : (k : Int) < (w : Int) := by omega
      have h9 := intB_len9 hi
      have c1 := levels_c G hG seed (by omega) h (by omega)
      have t1 := tbC_len seed h (h + 1)
      have t2 := tbC_get seed h (h + 1) h (by omega)
      rw [show 2 ^ (h - h) = 1 by simp] at t2
      have t3 : ((lvD seed h 1).map pdg).getD 0 PV.junk = .agg ((nodeV seed h 0).map pbyte) := by rw [List.getD_eq_getElem?_getD, List.getElem?_map, lvD_get _ _ _ _ (by omega)]; rfl
      have t5 : (tbC seed h (h + 1)).getD h PV.junk = .list 16 ((lvD seed h 1).map pdg) := by rw [List.getD_eq_getElem?_getD, t2]; rfl
      have t4 : ((lvD seed h 1).map pdg).length = 1 := by rw [List.length_map, lvD_len]
      have hvl := nodeV_len seed h 0
      have c2 := rhdig_c G hG (nodeV seed h 0) k m hvl hi hm
      have hdl := digestF_len (nodeV seed h 0) k m
      have c3 := rdig_c G (digestF (nodeV seed h 0) k m) hdl
      have hqg := digF_get (digestF (nodeV seed h 0) k m)
      have hql := digF_lt (digestF (nodeV seed h 0) k m)
      have hqn := digF_len (digestF (nodeV seed h 0) k m)
      have hsig : sigT seed h k m = intB k ++ catF (sigV seed k (digF (digestF (nodeV seed h 0) k m))) 68 ++ catF (patV seed k) h := rfl
      generalize sigT seed h k m = S at *
      generalize digF (digestF (nodeV seed h 0) k m) = q at *
      generalize digestF (nodeV seed h 0) k m = d at *
      generalize nodeV seed h 0 = v at *
      have ho := all_one_byte v
      have hl2 : (v.map pbyte).length = 16 := by rw [List.length_map, hvl]
      have tv : List.take 16 (v.map pbyte) = v.map pbyte := List.take_of_length_le (by omega)
      have c4 := rint_c G k hi.1 hi.2
      have b1 := isByte_pb (intB k)
      have b2 := unb_pb (intB k)
      have hlenS := catF_len (sigV_len seed k q)
      obtain ⟨e, he⟩ : ∃ e, e = intB (k : Int) := ⟨_, rfl⟩
      rw [← he] at c4 b1 b2 h9 hsig
      have hq2 : (q.map pn').length = 68 := by rw [List.length_map, hqn]
      repeat' (first
    | (with_reducible apply W_seq_k; intro nx hnx)
    | (with_reducible first | refine wr 261903 ?_ | refine wd (id := 14) 261903 3 (.op 0 true (.op 1 true (.op 2 true (.op 3 true (.op 4 true (.op 5 true (.op 6 true (.op 7 true (.op 8 true (.op 9 true (.op 10 true (.op 11 false (.op 12 false (.op 13 true (.op 14 true (.done)))))))))))))))) (by kernel_rfl) ?_)
    | ((with_reducible first | (apply WL_op; intro nx hnx) | refine Ev_out ?_ | refine wc ?_ | (apply popsD_op; intro nx hnx) | (refine popsD_alt ?_ ?_; intro nx hnx) | (refine pf hnm fun nm hnm => ?_; try simp only [fmb] at hnm) | (refine pm hnm fun nm hnm => ?_; try simp only [fmb] at hnm)); try (simp (maxSteps := 2000000) (disch := omega) only [ev, ↓evp, PV.cells, PV.one, PV.mem?, Value.cells, simprocAttr, hnm, Tryd.tf0, Tryd.tf3, Tryd.tf4, Tryd.tf5, Tryd.tf9, Tryd.tf22, Tryd.tf27, Tryd.tf28, Tryd.tf37, Tryd.tf58, Tryd.tf126, Tryd.call51, Tryd.call70, Tryd.call71, Tryd.call72, Tryd.call73, Tryd.call74, Tryd.call75, Tryd.call76, hk0, hsh, t1, t2, t3, t4, t5, ho, hl2, tv, b1, b2]))
    | ((with_reducible first | apply W_block | apply W_scope | apply WL_nil | apply W_label | apply W_skip | apply W_exit | apply W_ret | apply popsD_done | exact popsD_stop) <;> try simp only [kks, simprocAttr])
    | (with_reducible apply pg <;> (intro hc; (try simp only [hcb, simprocAttr, ne_eq, forall_const] at hc); first | (exfalso; omega) | exact absurd trivial hc | skip))
    | (with_reducible apply hnx; clear hnx nx)
    | (with_reducible refine And.intro (by omega) ?_)
    | (with_reducible refine And.intro ?_ ?_)
    | (with_reducible refine pe (c0) ?_)
    | (with_reducible refine pe (c1) ?_)
    | (with_reducible refine pe (c2) ?_)
    | (with_reducible refine pe (c3) ?_)
    | (with_reducible refine pe (c4) ?_)
    | (clear hnx nx; with_reducible apply hnx; clear hnx nx)
    | (clear hnx nx; clear hnx nx; with_reducible apply hnx; clear hnx nx))
      all_goals first
        | exact rfl
        | (exfalso
           omega)
        | (intro hh
           exfalso
           simp at hh
           done)
        | (intro hh
           exfalso
           simp at hh
           omega)
        | skip
      refine W_loop_k (fun z τ => ∃ (c : Nat) (s : List UInt8), c ≤ 68 ∧ z = 68 - c ∧ s = e ++ catF (sigV seed k q) c ∧
          τ = ⟨fr 94 [(14, pint .i64 c), (13, pstr s), (12, .list 1 (q.map pn')), (11, .list 1 (tbC seed h (h + 1))), (0, pstr seed), (1, pint .i64 h), (2, pint .i64 k)], []⟩) 68
        ⟨fr 94 [(14, pint .i64 (0 : Nat)), (13, pstr e), (12, .list 1 (q.map pn')), (11, .list 1 (tbC seed h (h + 1))), (0, pstr seed), (1, pint .i64 h), (2, pint .i64 k)], []⟩ (by
        refine Wk_fr (by simp only [wkb, simprocAttr]) ?_
        exact Sub_refl (by simp [names])) ⟨0, e, by omega, by omega, by rw [catF_zero, List.append_nil], rfl⟩ ?_
      rintro z τ ⟨c, s, hc, rfl, hsc, rfl⟩ lp hlp
      have hsl : s.length ≤ 9 + 16 * c := by rw [hsc, List.length_append, hlenS]; omega
      by_cases hlt : c < 68
      · have hcR : inR (c : Int) := ⟨by omega, by omega⟩
        have hg := hqg c hlt
        have hgl := hql c
        have hg3 : (q.map pn').getD c PV.junk = pint .i64 (q.getD c 0 : Nat) := by rw [List.getD_eq_getElem?_getD, hg]; rfl
        have d1 := rstart_c G hG seed hs k c hi hcR
        have d2 := radv_c G hG k c 0 (q.getD c 0 : Nat) (startF seed k c) hi hcR (by omega) (by omega) (by omega) (by omega) (startF_len _ _ _)
        rw [show advF k c 0 (((q.getD c 0 : Nat) : Int) - 0).toNat (startF seed k c) = sigV seed k q c from rfl] at d2
        have d3 := text_c G (sigV seed k q c) (sigV_len _ _ _ _)
        have hsu := catF_succ (sigV seed k q) c
        obtain ⟨u, hu⟩ : ∃ u, u = s ++ sigV seed k q c := ⟨_, rfl⟩
        have htl := sigV_len seed k q c
        have hul : u = e ++ catF (sigV seed k q) (c + 1) := by rw [hu, hsc, hsu, List.append_assoc]
        generalize sigV seed k q c = t at *
        generalize startF seed k c = v at *
        generalize q.getD c 0 = x at *
        repeat' (first
    | (with_reducible apply W_seq_k; intro nx hnx)
    | (with_reducible first | refine wr 261903 ?_ | refine wd (id := 14) 261903 3 (.op 0 true (.op 1 true (.op 2 true (.op 3 true (.op 4 true (.op 5 true (.op 6 true (.op 7 true (.op 8 true (.op 9 true (.op 10 true (.op 11 false (.op 12 false (.op 13 true (.op 14 true (.done)))))))))))))))) (by kernel_rfl) ?_)
    | ((with_reducible first | (apply WL_op; intro nx hnx) | refine Ev_out ?_ | refine wc ?_ | (apply popsD_op; intro nx hnx) | (refine popsD_alt ?_ ?_; intro nx hnx) | (refine pf hnm fun nm hnm => ?_; try simp only [fmb] at hnm) | (refine pm hnm fun nm hnm => ?_; try simp only [fmb] at hnm)); try (simp (maxSteps := 2000000) (disch := omega) only [ev, ↓evp, PV.cells, PV.one, PV.mem?, Value.cells, simprocAttr, hnm, Tryd.tf0, Tryd.tf3, Tryd.tf4, Tryd.tf5, Tryd.tf9, Tryd.tf22, Tryd.tf27, Tryd.tf28, Tryd.tf37, Tryd.tf58, Tryd.tf126, Tryd.call51, Tryd.call70, Tryd.call71, Tryd.call72, Tryd.call73, Tryd.call74, Tryd.call75, Tryd.call76, ← hu, hsl, htl, hg, hg3, hq2]))
    | ((with_reducible first | apply W_block | apply W_scope | apply WL_nil | apply W_label | apply W_skip | apply W_exit | apply W_ret | apply popsD_done | exact popsD_stop) <;> try simp only [kks, simprocAttr])
    | (with_reducible apply pg <;> (intro hc; (try simp only [hcb, simprocAttr, ne_eq, forall_const] at hc); first | (exfalso; omega) | exact absurd trivial hc | skip))
    | (with_reducible apply hnx; clear hnx nx)
    | (with_reducible refine And.intro (by omega) ?_)
    | (with_reducible refine And.intro ?_ ?_)
    | (with_reducible refine pe (d1) ?_)
    | (with_reducible refine pe (d2) ?_)
    | (with_reducible refine pe (d3) ?_)
    | (clear hnx nx; with_reducible apply hnx; clear hnx nx)
    | (clear hnx nx; clear hnx nx; with_reducible apply hnx; clear hnx nx))
        all_goals first
          | exact rfl
          | (exfalso
             omega)
          | (refine hlp _ (68 - (c + 1)) _ (by omega) ?_ ⟨c + 1, u, by omega, rfl, hul, rfl⟩
             refine Wk_fr (by simp only [wkb, simprocAttr]) ?_
             exact Sub_refl (by simp [names]))
      · obtain rfl : c = 68 := by omega
        have hlenP := catF_len (patV_len seed k)
        clear c0 c1 c2 c3 c4 hqg hql t2 t3 t4 t5 ho hl2 tv b1 b2
        repeat' (first
    | (with_reducible apply W_seq_k; intro nx hnx)
    | (with_reducible first | refine wr 261903 ?_ | refine wd (id := 14) 261903 3 (.op 0 true (.op 1 true (.op 2 true (.op 3 true (.op 4 true (.op 5 true (.op 6 true (.op 7 true (.op 8 true (.op 9 true (.op 10 true (.op 11 false (.op 12 false (.op 13 true (.op 14 true (.done)))))))))))))))) (by kernel_rfl) ?_)
    | ((with_reducible first | (apply WL_op; intro nx hnx) | refine Ev_out ?_ | refine wc ?_ | (apply popsD_op; intro nx hnx) | (refine popsD_alt ?_ ?_; intro nx hnx) | (refine pf hnm fun nm hnm => ?_; try simp only [fmb] at hnm) | (refine pm hnm fun nm hnm => ?_; try simp only [fmb] at hnm)); try (simp (maxSteps := 2000000) (disch := omega) only [ev, ↓evp, PV.cells, PV.one, PV.mem?, Value.cells, simprocAttr, hnm, Tryd.tf0, Tryd.tf3, Tryd.tf4, Tryd.tf5, Tryd.tf9, Tryd.tf22, Tryd.tf27, Tryd.tf28, Tryd.tf37, Tryd.tf58, Tryd.tf126, Tryd.call51, Tryd.call70, Tryd.call71, Tryd.call72, Tryd.call73, Tryd.call74, Tryd.call75, Tryd.call76]))
    | ((with_reducible first | apply W_block | apply W_scope | apply WL_nil | apply W_label | apply W_skip | apply W_exit | apply W_ret | apply popsD_done | exact popsD_stop) <;> try simp only [kks, simprocAttr])
    | (with_reducible apply pg <;> (intro hc; (try simp only [hcb, simprocAttr, ne_eq, forall_const] at hc); first | (exfalso; omega) | exact absurd trivial hc | skip))
    | (with_reducible apply hnx; clear hnx nx)
    | (with_reducible refine And.intro (by omega) ?_)
    | (with_reducible refine And.intro ?_ ?_)
    | (clear hnx nx; with_reducible apply hnx; clear hnx nx)
    | (clear hnx nx; clear hnx nx; with_reducible apply hnx; clear hnx nx))
        refine W_loop_k (fun z τ => ∃ (l : Nat) (u : List UInt8), l ≤ h ∧ z = h - l ∧ u = s ++ catF (patV seed k) l ∧
            τ = ⟨fr 94 [(16, pint .i64 l), (15, pint .i64 (k / 2 ^ l : Nat)), (13, pstr u), (11, .list 1 (tbC seed h (h + 1))), (1, pint .i64 h)], []⟩) h
          ⟨fr 94 [(16, pint .i64 (0 : Nat)), (15, pint .i64 (k : Nat)), (13, pstr s), (11, .list 1 (tbC seed h (h + 1))), (1, pint .i64 h)], []⟩ (by
          refine Wk_fr (by simp only [wkb, simprocAttr]) ?_
          exact Sub_refl (by simp [names])) ⟨0, s, by omega, by omega, by rw [catF_zero, List.append_nil], by rw [Nat.pow_zero, Nat.div_one]⟩ ?_
        rintro z τ ⟨l, u, hl, rfl, hul, rfl⟩ lp2 hlp2
        have hulen : u.length ≤ 9 + 16 * 68 + 16 * l := by rw [hul, List.length_append, hlenP]; omega
        by_cases hlh : l < h
        · obtain ⟨V, hV⟩ : ∃ V, V = 2 ^ (h - (l + 1)) := ⟨_, rfl⟩
          have hVw : 2 ^ (h - l) = 2 * V := by rw [hV, show h - l = (h - (l + 1)) + 1 by omega, Nat.pow_succ, Nat.mul_comm]
          have hV64 : V ≤ 64 := by rw [hV]; exact pow_le64 _ (by omega)
          have hcur : k / 2 ^ l < 2 * V := by
            rw [Nat.div_lt_iff_lt_mul (Nat.pow_pos (by omega)), ← hVw, ← Nat.pow_add, show h - l + l = h by omega, ← hw]
            exact hkw
          have hq2' : k / 2 ^ (l + 1) = k / 2 ^ l / 2 := by rw [Nat.div_div_eq_div_mul, ← Nat.pow_succ]
          have t2 := tbC_get seed h (h + 1) l (by omega)
          rw [hVw] at t2
          have t5 : (tbC seed h (h + 1)).getD l PV.junk = .list 16 ((lvD seed l (2 * V)).map pdg) := by rw [List.getD_eq_getElem?_getD, t2]; rfl
          have t4 : ((lvD seed l (2 * V)).map pdg).length = 2 * V := by rw [List.length_map, lvD_len]
          have hsu := catF_succ (patV seed k) l
          have hpv : patV seed k l = nodeV seed l (sib (k / 2 ^ l)) := rfl
          rw [hpv] at hsu
          generalize hcr : k / 2 ^ l = r at *
          have hsb : sib r < 2 * V := by unfold sib; split <;> omega
          have g1 : ((lvD seed l (2 * V)).map pdg)[sib r]? = some (pdg (nodeV seed l (sib r))) := by
            rw [List.getElem?_map, lvD_get _ _ _ _ hsb]
            rfl
          have g3 : ((lvD seed l (2 * V)).map pdg).getD (sib r) PV.junk = .agg ((nodeV seed l (sib r)).map pbyte) := by rw [List.getD_eq_getElem?_getD, g1]; rfl
          have hvl := nodeV_len seed l (sib r)
          have d3 := text_c G (nodeV seed l (sib r)) hvl
          obtain ⟨y, hy⟩ : ∃ y, y = u ++ nodeV seed l (sib r) := ⟨_, rfl⟩
          have hyu : y = s ++ catF (patV seed k) (l + 1) := by rw [hy, hul, hsu, List.append_assoc]
          generalize nodeV seed l (sib r) = v at *
          have ho := all_one_byte v
          have hl2 : (v.map pbyte).length = 16 := by rw [List.length_map, hvl]
          have tv : List.take 16 (v.map pbyte) = v.map pbyte := List.take_of_length_le (by omega)
          have e1 : Int.tmod (r : Int) 2 = ((r % 2 : Nat) : Int) := by
            rw [Int.tmod_eq_emod_of_nonneg (by omega)]
            omega
          have e2 : Int.tdiv (r : Int) 2 = ((r / 2 : Nat) : Int) := by
            rw [Int.tdiv_eq_ediv_of_nonneg (by omega)]
            omega
          by_cases hodd : r % 2 = 1
          · have e3 : (r : Int) - 1 = ((sib r : Nat) : Int) := by rw [sib, if_pos hodd]; omega
            rw [hodd] at e1
            repeat' (first
    | (with_reducible apply W_seq_k; intro nx hnx)
    | (with_reducible first | refine wr 261903 ?_ | refine wd (id := 14) 261903 3 (.op 0 true (.op 1 true (.op 2 true (.op 3 true (.op 4 true (.op 5 true (.op 6 true (.op 7 true (.op 8 true (.op 9 true (.op 10 true (.op 11 false (.op 12 false (.op 13 true (.op 14 true (.done)))))))))))))))) (by kernel_rfl) ?_)
    | ((with_reducible first | (apply WL_op; intro nx hnx) | refine Ev_out ?_ | refine wc ?_ | (apply popsD_op; intro nx hnx) | (refine popsD_alt ?_ ?_; intro nx hnx) | (refine pf hnm fun nm hnm => ?_; try simp only [fmb] at hnm) | (refine pm hnm fun nm hnm => ?_; try simp only [fmb] at hnm)); try (simp (maxSteps := 2000000) (disch := omega) only [ev, ↓evp, PV.cells, PV.one, PV.mem?, Value.cells, simprocAttr, hnm, Tryd.tf0, Tryd.tf3, Tryd.tf4, Tryd.tf5, Tryd.tf9, Tryd.tf22, Tryd.tf27, Tryd.tf28, Tryd.tf37, Tryd.tf58, Tryd.tf126, Tryd.call51, Tryd.call70, Tryd.call71, Tryd.call72, Tryd.call73, Tryd.call74, Tryd.call75, Tryd.call76, ← hy, hlh, t1, t2, t4, t5, g1, g3, ho, hl2, tv, e1, e2, e3, hvl, hulen]))
    | ((with_reducible first | apply W_block | apply W_scope | apply WL_nil | apply W_label | apply W_skip | apply W_exit | apply W_ret | apply popsD_done | exact popsD_stop) <;> try simp only [kks, simprocAttr])
    | (with_reducible apply pg <;> (intro hc; (try simp only [hcb, simprocAttr, ne_eq, forall_const] at hc); first | (exfalso; omega) | exact absurd trivial hc | skip))
    | (with_reducible apply hnx; clear hnx nx)
    | (with_reducible refine And.intro (by omega) ?_)
    | (with_reducible refine And.intro ?_ ?_)
    | (with_reducible refine pe (d3) ?_)
    | (clear hnx nx; with_reducible apply hnx; clear hnx nx)
    | (clear hnx nx; clear hnx nx; with_reducible apply hnx; clear hnx nx))
            all_goals first
              | exact rfl
              | (exfalso
                 omega)
              | (refine hlp2 _ (h - (l + 1)) _ (by omega) ?_ ⟨l + 1, y, by omega, rfl, hyu, rfl⟩
                 rw [hq2']
                 refine Wk_fr (by simp only [wkb, simprocAttr]) ?_
                 exact Sub_refl (by simp [names]))
          · have e3 : (r : Int) + 1 = ((sib r : Nat) : Int) := by rw [sib, if_neg hodd]; omega
            rw [show r % 2 = 0 by omega] at e1
            repeat' (first
    | (with_reducible apply W_seq_k; intro nx hnx)
    | (with_reducible first | refine wr 261903 ?_ | refine wd (id := 14) 261903 3 (.op 0 true (.op 1 true (.op 2 true (.op 3 true (.op 4 true (.op 5 true (.op 6 true (.op 7 true (.op 8 true (.op 9 true (.op 10 true (.op 11 false (.op 12 false (.op 13 true (.op 14 true (.done)))))))))))))))) (by kernel_rfl) ?_)
    | ((with_reducible first | (apply WL_op; intro nx hnx) | refine Ev_out ?_ | refine wc ?_ | (apply popsD_op; intro nx hnx) | (refine popsD_alt ?_ ?_; intro nx hnx) | (refine pf hnm fun nm hnm => ?_; try simp only [fmb] at hnm) | (refine pm hnm fun nm hnm => ?_; try simp only [fmb] at hnm)); try (simp (maxSteps := 2000000) (disch := omega) only [ev, ↓evp, PV.cells, PV.one, PV.mem?, Value.cells, simprocAttr, hnm, Tryd.tf0, Tryd.tf3, Tryd.tf4, Tryd.tf5, Tryd.tf9, Tryd.tf22, Tryd.tf27, Tryd.tf28, Tryd.tf37, Tryd.tf58, Tryd.tf126, Tryd.call51, Tryd.call70, Tryd.call71, Tryd.call72, Tryd.call73, Tryd.call74, Tryd.call75, Tryd.call76, ← hy, hlh, t1, t2, t4, t5, g1, g3, ho, hl2, tv, e1, e2, e3, hvl, hulen]))
    | ((with_reducible first | apply W_block | apply W_scope | apply WL_nil | apply W_label | apply W_skip | apply W_exit | apply W_ret | apply popsD_done | exact popsD_stop) <;> try simp only [kks, simprocAttr])
    | (with_reducible apply pg <;> (intro hc; (try simp only [hcb, simprocAttr, ne_eq, forall_const] at hc); first | (exfalso; omega) | exact absurd trivial hc | skip))
    | (with_reducible apply hnx; clear hnx nx)
    | (with_reducible refine And.intro (by omega) ?_)
    | (with_reducible refine And.intro ?_ ?_)
    | (with_reducible refine pe (d3) ?_)
    | (clear hnx nx; with_reducible apply hnx; clear hnx nx)
    | (clear hnx nx; clear hnx nx; with_reducible apply hnx; clear hnx nx))
            all_goals first
              | exact rfl
              | (exfalso
                 omega)
              | (refine hlp2 _ (h - (l + 1)) _ (by omega) ?_ ⟨l + 1, y, by omega, rfl, hyu, rfl⟩
                 rw [hq2']
                 refine Wk_fr (by simp only [wkb, simprocAttr]) ?_
                 exact Sub_refl (by simp [names]))
        · obtain rfl : l = h := by omega
          have hS : u = S := by rw [hul, hsc, hsig]
          repeat' (first
    | (with_reducible apply W_seq_k; intro nx hnx)
    | (with_reducible first | refine wr 261903 ?_ | refine wd (id := 14) 261903 3 (.op 0 true (.op 1 true (.op 2 true (.op 3 true (.op 4 true (.op 5 true (.op 6 true (.op 7 true (.op 8 true (.op 9 true (.op 10 true (.op 11 false (.op 12 false (.op 13 true (.op 14 true (.done)))))))))))))))) (by kernel_rfl) ?_)
    | ((with_reducible first | (apply WL_op; intro nx hnx) | refine Ev_out ?_ | refine wc ?_ | (apply popsD_op; intro nx hnx) | (refine popsD_alt ?_ ?_; intro nx hnx) | (refine pf hnm fun nm hnm => ?_; try simp only [fmb] at hnm) | (refine pm hnm fun nm hnm => ?_; try simp only [fmb] at hnm)); try (simp (maxSteps := 2000000) (disch := omega) only [ev, ↓evp, PV.cells, PV.one, PV.mem?, Value.cells, simprocAttr, hnm, Tryd.tf0, Tryd.tf3, Tryd.tf4, Tryd.tf5, Tryd.tf9, Tryd.tf22, Tryd.tf27, Tryd.tf28, Tryd.tf37, Tryd.tf58, Tryd.tf126, Tryd.call51, Tryd.call70, Tryd.call71, Tryd.call72, Tryd.call73, Tryd.call74, Tryd.call75, Tryd.call76]))
    | ((with_reducible first | apply W_block | apply W_scope | apply WL_nil | apply W_label | apply W_skip | apply W_exit | apply W_ret | apply popsD_done | exact popsD_stop) <;> try simp only [kks, simprocAttr])
    | (with_reducible apply pg <;> (intro hc; (try simp only [hcb, simprocAttr, ne_eq, forall_const] at hc); first | (exfalso; omega) | exact absurd trivial hc | skip))
    | (with_reducible apply hnx; clear hnx nx)
    | (with_reducible refine And.intro (by omega) ?_)
    | (with_reducible refine And.intro ?_ ?_)
    | (clear hnx nx; with_reducible apply hnx; clear hnx nx)
    | (clear hnx nx; clear hnx nx; with_reducible apply hnx; clear hnx nx))
          all_goals first
            | exact rfl
            | (exfalso
               omega)
            | (rw [hS]
               (refine hfin _ _ (Fin_ret2 rfl rfl (Sub_nil _) ?_); simp only [cob, simprocAttr]; first | trivial | exact ⟨rfl, by trivial⟩ | (simp; done) | (simp; omega)))
  · have hp : signF seed n i m = ([], 1) := by rw [signF, if_pos hf]
    simp only [hp] at hfin
    rw [decide_eq_false hf] at c0
    repeat' (first
    | (with_reducible apply W_seq_k; intro nx hnx)
    | (with_reducible first | refine wr 261903 ?_ | refine wd (id := 14) 261903 3 (.op 0 true (.op 1 true (.op 2 true (.op 3 true (.op 4 true (.op 5 true (.op 6 true (.op 7 true (.op 8 true (.op 9 true (.op 10 true (.op 11 false (.op 12 false (.op 13 true (.op 14 true (.done)))))))))))))))) (by kernel_rfl) ?_)
    | ((with_reducible first | (apply WL_op; intro nx hnx) | refine Ev_out ?_ | refine wc ?_ | (apply popsD_op; intro nx hnx) | (refine popsD_alt ?_ ?_; intro nx hnx) | (refine pf hnm fun nm hnm => ?_; try simp only [fmb] at hnm) | (refine pm hnm fun nm hnm => ?_; try simp only [fmb] at hnm)); try (simp (maxSteps := 2000000) (disch := omega) only [ev, ↓evp, PV.cells, PV.one, PV.mem?, Value.cells, simprocAttr, hnm, Tryd.tf0, Tryd.tf3, Tryd.tf4, Tryd.tf5, Tryd.tf9, Tryd.tf22, Tryd.tf27, Tryd.tf28, Tryd.tf37, Tryd.tf58, Tryd.tf126, Tryd.call51, Tryd.call70, Tryd.call71, Tryd.call72, Tryd.call73, Tryd.call74, Tryd.call75, Tryd.call76]))
    | ((with_reducible first | apply W_block | apply W_scope | apply WL_nil | apply W_label | apply W_skip | apply W_exit | apply W_ret | apply popsD_done | exact popsD_stop) <;> try simp only [kks, simprocAttr])
    | (with_reducible apply pg <;> (intro hc; (try simp only [hcb, simprocAttr, ne_eq, forall_const] at hc); first | (exfalso; omega) | exact absurd trivial hc | skip))
    | (with_reducible apply hnx; clear hnx nx)
    | (with_reducible refine And.intro (by omega) ?_)
    | (with_reducible refine And.intro ?_ ?_)
    | (with_reducible refine pe (c0) ?_)
    | (clear hnx nx; with_reducible apply hnx; clear hnx nx)
    | (clear hnx nx; clear hnx nx; with_reducible apply hnx; clear hnx nx))
    all_goals first
      | exact rfl
      | (exfalso
         omega)
      | (refine hfin _ _ (Fin_ret2 rfl rfl (Sub_nil _) ?_); simp only [cob, simprocAttr]; first | trivial | exact ⟨rfl, by trivial⟩ | (simp; done) | (simp; omega))
end Go.PM
