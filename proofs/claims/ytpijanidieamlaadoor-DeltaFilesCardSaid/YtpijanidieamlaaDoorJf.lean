/- Joined texts (HQb HQc HGm HMp HMt HMq HMi HMj HQd HQe HDo HDp HKe HDe HDn HPb): the machine, the contracts, the laws. Conditions: none but those that each names. -/
import Derived.Test.YtpijanidieamlaaDoorJe
set_option linter.unusedSimpArgs false
set_option linter.unusedVariables false
namespace Go.PM
open Go.Proofs
attribute [local irreducible] W PCalls pcall pcallI WL
set_option maxRecDepth 100000 in
set_option maxHeartbeats 8000000 in
theorem dec1_c (G : Globs) (E B : Int) (hne : E ≠ B) (b c : List UInt8) (n : Int) (hn : inR n) (hb : b = intB n ++ c) (hbl : b.length ≤ 4294967296) :
    PCalls Tryd.prog G 62 [.ptr E 0, .ptr B 0] [(E, ⟨28, false, 0, [pint .i64 0]⟩), (B, ⟨27, false, 0, [.list 1 (b.map pbyte)]⟩)]
      (fun res H => res = pint .i64 n ∧ H = [(E, ⟨28, false, 0, [pint .i64 0]⟩), (B, ⟨27, false, 0, [.list 1 (c.map pbyte)]⟩)]) := by
  have g1 := getInt_c G b (by omega)
  have hg := gI_intB hn c
  rw [← hb] at hg
  rw [hg] at g1
  simp only [t3] at g1
  have hd : List.drop (intB n).length (List.take b.length (b.map pbyte)) = c.map pbyte := by
    rw [List.take_of_length_le (by simp), hb, List.map_append, List.drop_left' (by simp)]
  have hd2 : List.drop (intB n).length (b.map pbyte) = c.map pbyte := by
    rw [hb, List.map_append, List.drop_left' (by simp)]
  have hle : (intB n).length ≤ b.length := by rw [hb, List.length_append]; omega
  have hcl : b.length - (intB n).length = c.length := by rw [hb, List.length_append]; omega
  clear hb hg
  generalize intB n = x at *
  have hne' : ¬ E = B := hne
  have hne'' : ¬ B = E := fun e => hne e.symm
  (refine PCalls_f Tryd.func62 rfl Tryd.ntmps62 Tryd.results62 (by simp) fun fin hfin => ?_; have hnm : True := trivial; simp only [ev, simprocAttr])
  repeat' (first
    | (with_reducible apply W_seq_k; intro nx hnx)
    | (with_reducible first | refine wr 31 ?_)
    | ((with_reducible first | (apply WL_op; intro nx hnx) | refine Ev_out ?_ | refine wc ?_); try (simp (maxSteps := 2000000) (disch := omega) only [ev, ↓evp, PV.cells, PV.one, PV.mem?, Value.cells, simprocAttr, hnm, Tryd.tf0, Tryd.tf1, Tryd.tf2, Tryd.tf3, Tryd.tf4, Tryd.tf5, Tryd.tf27, Tryd.tf28, Tryd.tf106, Tryd.call56, hd, hd2, hne', hne'', hcl, List.take_length, List.length_map]))
    | ((with_reducible first | apply W_block | apply W_scope | apply WL_nil | apply W_label | apply W_skip | apply W_exit | apply W_ret) <;> try simp only [kks, simprocAttr])
    | (with_reducible apply pg <;> (intro hc; (try simp only [hcb, simprocAttr, ne_eq, forall_const] at hc); first | (exfalso; omega) | exact absurd trivial hc | skip))
    | (with_reducible apply hnx; clear hnx nx)
    | (with_reducible refine And.intro (by omega) ?_)
    | (with_reducible refine And.intro ?_ ?_)
    | (with_reducible refine pe (g1) ?_)
    | (clear hnx nx; with_reducible apply hnx; clear hnx nx)
    | (clear hnx nx; clear hnx nx; with_reducible apply hnx; clear hnx nx))
  all_goals first
    | exact absurd trivial hc
    | (exfalso
       omega)
    | skip
  refine hfin _ _ (Fin_ret1 rfl (Sub_refl (by simp [names, hne])) ?_)
  simp only [cob, simprocAttr]
  first | done | exact ⟨rfl, rfl⟩ | exact ⟨trivial, trivial⟩
@[reducible] def pubP (d : List UInt8) (h : Int) : PV := .agg (d.map pbyte ++ [pint .i64 h])
theorem Fin_pub2 {x y : Tmp} {n : Int} {f : List PV} {e : PV} {R : PV → Heap → Prop} {σ : PState} (hx : σ.frame.getD x .junk = .ptr n 0) (hl : look σ.heap n = some ⟨39, false, 0, f⟩) (hf : f.length = 17) (hone : f.all PV.one = true)
    (hy : σ.frame.getD y .junk = e) (h3 : R (.tuple [.agg f, e]) []) : Fin Tryd.prog [.cell x 39, .tmp y] R .ret σ := by
  have htk : List.take 17 f = f := List.take_of_length_le (by omega)
  refine Fin_ret (H := []) (show PResult Tryd.prog σ [.cell x 39, .tmp y] (.tuple [.agg f, e]) from ⟨[.agg f, e], ⟨?_, hy.symm, trivial⟩, rfl⟩) (Sub_nil _) h3
  show PRes Tryd.prog σ (.cell x 39) (.agg f)
  simp only [PRes, Tryd.tf39, hx, hl]
  simp [pload, hf, htk, hone]
set_option maxRecDepth 100000 in
set_option maxHeartbeats 8000000 in
theorem ppub_c (G : Globs) (hG : G 0 = .iptr (KS.map pw) 0) (seed : List UInt8) (hs : seed.length = 32) :
    PCalls Tryd.prog G 11 [keyP seed 1] [] (fun res H => res = .tuple [pubP (nodeV seed 1 0) 1, pint .i64 0] ∧ H = []) := by
  have c1 := hpub_c G hG seed 1 (by omega)
  rw [show pubF seed 1 = (nodeV seed 1 0, 0) by rw [pubF, if_pos ⟨hs, by omega, by omega⟩]; rfl] at c1
  simp only at c1
  have hl := nodeV_len seed 1 0
  generalize nodeV seed 1 0 = d at *
  have hl1 : (d.map pbyte).length = 16 := by rw [List.length_map, hl]
  have o1 := all_one_byte d
  have tp : List.take 16 (d.map pbyte) = d.map pbyte := List.take_of_length_le (by omega)
  have tk : ∀ y : PV, List.take 16 (d.map pbyte ++ [y]) = d.map pbyte := fun y => List.take_left' hl1
  have dr : ∀ y : PV, List.drop 17 (d.map pbyte ++ [y]) = [] := fun y => List.drop_of_length_le (by rw [List.length_append, hl1]; simp)
  have l17 : ∀ y : PV, (d.map pbyte ++ [y]).length = 17 := fun y => by rw [List.length_append, hl1]; rfl
  have o2 : (d.map pbyte ++ [pint .i64 1]).all PV.one = true := by rw [List.all_append, o1]; rfl
  (refine PCalls_f Tryd.func11 rfl Tryd.ntmps11 Tryd.results11 (by simp) fun fin hfin => ?_; have hnm : True := trivial; simp only [ev, simprocAttr])
  repeat' (first
    | (with_reducible apply W_seq_k; intro nx hnx)
    | (with_reducible first | refine wr 63 ?_)
    | (with_reducible refine WL_born (by simp) rfl (by simp) ?_; simp only [elemsOf, nl, bir, simprocAttr])
    | (with_reducible refine WL_bornH (by simp) (by simp) ?_ ?_ ?_; (· simp [frz, frz1, hnm]); (· simp [frz1, hnm, PV.one, Value.oneCell']); simp only [elemsOf, nl, bir, simprocAttr])
    | ((with_reducible first | (apply WL_op; intro nx hnx) | refine Ev_out ?_ | refine wc ?_ | (refine pf hnm fun nm hnm => ?_; try simp only [fmb] at hnm) | (refine pborn_im ?_; simp only [elemsOf, nl, bir, simprocAttr])); try (simp (maxSteps := 2000000) (disch := omega) only [ev, ↓evp, PV.cells, PV.one, PV.mem?, Value.cells, simprocAttr, hnm, Tryd.tf0, Tryd.tf1, Tryd.tf3, Tryd.tf4, Tryd.tf5, Tryd.tf9, Tryd.tf28, Tryd.tf32, Tryd.tf37, Tryd.tf39, Tryd.tf66, Tryd.call31, hl1, o1, tp, tk, dr, l17, o2, List.append_nil]))
    | ((with_reducible first | apply W_block | apply W_scope | apply WL_nil | apply W_label | apply W_skip | apply W_exit | apply W_ret) <;> try simp only [kks, simprocAttr])
    | (with_reducible apply pg <;> (intro hc; (try simp only [hcb, simprocAttr, ne_eq, forall_const] at hc); first | (exfalso; omega) | exact absurd trivial hc | skip))
    | (with_reducible apply hnx; clear hnx nx)
    | (with_reducible refine And.intro (by omega) ?_)
    | (with_reducible refine And.intro ?_ ?_)
    | (with_reducible refine pe (c1) ?_)
    | (clear hnx nx; with_reducible apply hnx; clear hnx nx)
    | (clear hnx nx; clear hnx nx; with_reducible apply hnx; clear hnx nx))
  all_goals first
    | exact absurd trivial hc
    | (exfalso
       omega)
    | skip
  refine hfin _ _ ?_
  refine Fin_pub2 (f := d.map pbyte ++ [pint .i64 1]) (e := pint .i64 0) (n := ?_) ?_ ?_ (l17 _) o2 ?_ ⟨rfl, rfl⟩
  rotate_left
  · simp only [fr_getD_cons, Nat.reduceEqDiff, Nat.reduceLT, ↓reduceIte]
    exact rfl
  · simp [look, hnm]
  · simp only [fr_getD_cons, Nat.reduceEqDiff, Nat.reduceLT, ↓reduceIte]
    try exact rfl
end Go.PM

namespace Go.PM
open Go.Proofs
attribute [local irreducible] W PCalls pcall pcallI WL
/-- What is left of the changes after the first i of them. -/
def restC (L : List Chg) (i : Nat) : List UInt8 := (L.drop i).flatMap chB
theorem restC_step {L : List Chg} {i : Nat} (h : i < L.length) : restC L i = intB L[i].at_ ++ (intB L[i].drop ++ (encL bytesB L[i].add ++ restC L (i + 1))) := by
  unfold restC
  rw [List.drop_eq_getElem_cons h, List.flatMap_cons, chB]
  simp
theorem restC_end {L : List Chg} {i : Nat} (h : L.length ≤ i) : restC L i = [] := by
  unfold restC
  rw [List.drop_of_length_le h]
  rfl
theorem restC_le (L : List Chg) (i : Nat) : (restC L i).length ≤ (L.flatMap chB).length := by
  have h : L.flatMap chB = (L.take i).flatMap chB ++ restC L i := by
    rw [restC, ← List.flatMap_append, List.take_append_drop]
  rw [h, List.length_append]
  omega
attribute [irreducible] restC
/-- What decode gives back. -/
@[reducible] def DecR (du dv : List UInt8) (L : List Chg) (res : PV) (H : Heap) : Prop :=
  ∃ O, res = .tuple [.list 16 [pdh du, pdh dv], .row O 3 L.length, pint .i64 0] ∧ H = [(O, ⟨52, true, 3, flatC L⟩)]
set_option maxRecDepth 100000 in
set_option maxHeartbeats 8000000 in
theorem decode_r (G : Globs) (du dv : List UInt8) (h1 : du.length = 16) (h2 : dv.length = 16) (L : List Chg) (hL : L.length ≤ 100) (hC : ∀ c ∈ L, (0 ≤ c.at_ ∧ c.at_ ≤ 1000) ∧ (0 ≤ c.drop ∧ c.drop ≤ 1000) ∧ c.add.length ≤ 1000 ∧ ∀ s ∈ c.add, s.length ≤ 1000)
    (M : List UInt8) (hM : M = encL id [du, dv] ++ (intB L.length ++ restC L 0)) (hMl : M.length ≤ 100000) (hrl : ∀ i, (restC L i).length ≤ 100000) :
    PCalls Tryd.prog G 34 [.list 1 (M.map pbyte)] [] (DecR du dv L) := by
  have g1 := getDigs_c G M (by omega)
  have hd := gDs_two du dv (intB L.length ++ restC L 0) h1 h2
  rw [← hM] at hd
  rw [hd] at g1
  clear hd
  simp only [List.map_cons, List.map_nil] at g1
  obtain ⟨R0, hR0⟩ : ∃ R0, R0 = intB L.length ++ restC L 0 := ⟨_, rfl⟩
  rw [← hR0] at hM
  have hle : (encL id [du, dv]).length ≤ M.length := by rw [hM, List.length_append]; omega
  have hsl : List.drop (encL id [du, dv]).length (M.map pbyte) = R0.map pbyte := by
    rw [hM, List.map_append, List.drop_left' (by simp)]
  have hR0l : R0.length ≤ 100000 := by
    have := congrArg List.length hM
    rw [List.length_append] at this
    omega
  have hrl2 : M.length - (encL id [du, dv]).length = R0.length := by rw [hM, List.length_append]; omega
  clear hM
  generalize encL id [du, dv] = x at *
  have htM : List.take M.length (M.map pbyte) = M.map pbyte := List.take_of_length_le (by simp)
  have hca : callable Tryd.prog 62 = true := by kernel_rfl
  (refine PCalls_f Tryd.func34 rfl Tryd.ntmps34 Tryd.results34 (by simp) fun fin hfin => ?_; have hnm : True := trivial; simp only [ev, simprocAttr])
  repeat' (first
    | (with_reducible apply W_seq_k; intro nx hnx)
    | (with_reducible first | refine wr 16383 ?_ | refine wd (id := 6) 16383 1 (.op 0 true (.op 1 true (.op 2 true (.op 3 true (.done))))) (by kernel_rfl) ?_ | refine wd (id := 23) 16383 1 (.op 0 true (.op 1 true (.op 2 true (.op 3 true (.op 4 true (.op 5 true (.done))))))) (by kernel_rfl) ?_)
    | (with_reducible refine WL_born (by simp) rfl (by simp) ?_; simp only [elemsOf, nl, bir, simprocAttr])
    | (with_reducible refine WL_bornH (by simp) (by simp) ?_ ?_ ?_; (· simp [frz, frz1, hnm]); (· simp [frz1, hnm, PV.one, Value.oneCell']); simp only [elemsOf, nl, bir, simprocAttr])
    | ((with_reducible first | (apply WL_op; intro nx hnx) | refine Ev_out ?_ | refine wc ?_ | (apply popsD_op; intro nx hnx) | (refine popsD_alt ?_ ?_; intro nx hnx) | (refine pf hnm fun nm hnm => ?_; try simp only [fmb] at hnm) | (refine pborn_im ?_; simp only [elemsOf, nl, bir, simprocAttr]) | (refine pmaybe_k ?_; intro bn hbn)); try (simp (maxSteps := 2000000) (disch := omega) only [ev, ↓evp, PV.cells, PV.one, PV.mem?, Value.cells, simprocAttr, hnm, Tryd.tf0, Tryd.tf1, Tryd.tf2, Tryd.tf3, Tryd.tf4, Tryd.tf5, Tryd.tf9, Tryd.tf24, Tryd.tf27, Tryd.tf28, Tryd.tf37, Tryd.tf48, Tryd.tf52, Tryd.tf58, Tryd.tf112, Tryd.tf114, Tryd.tf115, Tryd.call61, Tryd.call63, hca, hsl, hrl2, htM, List.take_length, List.length_map]))
    | ((with_reducible first | apply W_block | apply W_scope | apply WL_nil | apply W_label | apply W_skip | apply W_exit | apply W_ret | apply popsD_done | exact popsD_stop) <;> try simp only [kks, simprocAttr])
    | (with_reducible apply pg <;> (intro hc; (try simp only [hcb, simprocAttr, ne_eq, forall_const] at hc); first | (exfalso; omega) | exact absurd trivial hc | skip))
    | (with_reducible apply hnx; clear hnx nx)
    | (with_reducible refine And.intro (by omega) ?_)
    | (with_reducible refine And.intro ?_ ?_)
    | (with_reducible refine pe (g1) ?_)
    | (clear hnx nx; with_reducible apply hnx; clear hnx nx)
    | (clear hnx nx; clear hnx nx; with_reducible apply hnx; clear hnx nx))
  all_goals first
    | exact absurd trivial hc
    | (exfalso
       omega)
    | skip
  rename_i B hB0 nx hnx
  obtain ⟨E, hE⟩ : ∃ E, E = nm := ⟨_, rfl⟩
  subst hE
  have hEB : (E = B) = False := hnm.1
  have hBE : (B = E) = False := hnm.2
  have hne : E ≠ B := of_eq_false hEB
  clear hnm hB0
  have hnm : True := trivial
  refine pcall_midn [] [(E, ⟨28, false, 0, [pint .i64 0]⟩), (B, ⟨27, false, 0, [.list 1 (R0.map pbyte)]⟩)] [] rfl (dec1_c G E B hne R0 (restC L 0) L.length ⟨by omega, by omega⟩ hR0 (by omega)) ?_
  rintro _ HB ⟨rfl, rfl⟩ nd
  refine Ev_in ?_
  repeat' (first
    | (with_reducible apply W_seq_k; intro nx hnx)
    | (with_reducible first | refine wr 16383 ?_ | refine wd (id := 6) 16383 1 (.op 0 true (.op 1 true (.op 2 true (.op 3 true (.done))))) (by kernel_rfl) ?_ | refine wd (id := 23) 16383 1 (.op 0 true (.op 1 true (.op 2 true (.op 3 true (.op 4 true (.op 5 true (.done))))))) (by kernel_rfl) ?_)
    | (with_reducible refine WL_born (by simp) rfl (by simp) ?_; simp only [elemsOf, nl, bir, simprocAttr])
    | (with_reducible refine WL_bornH (by simp) (by simp) ?_ ?_ ?_; (· simp [frz, frz1, hnm]); (· simp [frz1, hnm, PV.one, Value.oneCell']); simp only [elemsOf, nl, bir, simprocAttr])
    | ((with_reducible first | (apply WL_op; intro nx hnx) | refine Ev_out ?_ | refine wc ?_ | (apply popsD_op; intro nx hnx) | (refine popsD_alt ?_ ?_; intro nx hnx) | (refine pf hnm fun nm hnm => ?_; try simp only [fmb] at hnm) | (refine pborn_im ?_; simp only [elemsOf, nl, bir, simprocAttr]) | (refine pmaybe_k ?_; intro bn hbn)); try (simp (maxSteps := 2000000) (disch := omega) only [ev, ↓evp, PV.cells, PV.one, PV.mem?, Value.cells, simprocAttr, hnm, Tryd.tf0, Tryd.tf1, Tryd.tf2, Tryd.tf3, Tryd.tf4, Tryd.tf5, Tryd.tf9, Tryd.tf24, Tryd.tf27, Tryd.tf28, Tryd.tf37, Tryd.tf48, Tryd.tf52, Tryd.tf58, Tryd.tf112, Tryd.tf114, Tryd.tf115, Tryd.call61, Tryd.call63, hca, hEB, hBE]))
    | ((with_reducible first | apply W_block | apply W_scope | apply WL_nil | apply W_label | apply W_skip | apply W_exit | apply W_ret | apply popsD_done | exact popsD_stop) <;> try simp only [kks, simprocAttr])
    | (with_reducible apply pg <;> (intro hc; (try simp only [hcb, simprocAttr, ne_eq, forall_const] at hc); first | (exfalso; omega) | exact absurd trivial hc | skip))
    | (with_reducible apply hnx; clear hnx nx)
    | (with_reducible refine And.intro (by omega) ?_)
    | (with_reducible refine And.intro ?_ ?_)
    | (clear hnx nx; with_reducible apply hnx; clear hnx nx)
    | (clear hnx nx; clear hnx nx; with_reducible apply hnx; clear hnx nx))
  all_goals first
    | exact absurd trivial hc
    | (exfalso
       omega)
    | skip
  refine W_adopt_f 5 52 3 (by simp only [fr_getD_cons, Nat.reduceEqDiff, Nat.reduceLT, ↓reduceIte]) fun D0 hD0 => ?_
  simp only [names, List.map_cons, List.map_nil, List.mem_cons, List.not_mem_nil, or_false, not_or, List.nil_append, List.append_nil] at hD0
  refine W_loop_k (fun z τ => ∃ (i : Nat) (D : Int) (o : List Chg), i ≤ L.length ∧ z = L.length - i ∧ o = L.take i ∧ (D ≠ E ∧ D ≠ B) ∧ τ = ⟨fr 82 [(5, .row D 3 o.length), (6, .list 16 [pdh du, pdh dv]), (8, .ptr E 0), (9, .func 62 [.ptr E 0, .ptr B 0]), (10, pint .i64 L.length), (11, pint .i64 i), (1, .ptr B 0)], [(D, ⟨52, true, 3, flatC o⟩), (E, ⟨28, false, 0, [pint .i64 0]⟩), (B, ⟨27, false, 0, [.list 1 ((restC L i).map pbyte)]⟩)]⟩) L.length
    ⟨fr 82 [(5, .row D0 3 0), (6, .list 16 [pdh du, pdh dv]), (8, .ptr E 0), (9, .func 62 [.ptr E 0, .ptr B 0]), (10, pint .i64 L.length), (11, pint .i64 (0 : Nat)), (1, .ptr B 0)], [(D0, ⟨52, true, 3, flatC []⟩), (E, ⟨28, false, 0, [pint .i64 0]⟩), (B, ⟨27, false, 0, [.list 1 ((restC L 0).map pbyte)]⟩)]⟩ (by
    refine Wk_fr (by simp only [wkb, simprocAttr]) ?_
    exact ⟨by rw [flatC_nil]; simp, by simp [names, hD0, hne]⟩) ⟨0, D0, [], by omega, by omega, by simp, ⟨hD0.1, hD0.2⟩, rfl⟩ ?_
  clear hD0 D0
  rintro z τ ⟨i, D, o, hi, rfl, ho, ⟨hDE, hDB⟩, rfl⟩ lp hlp
  have hol : o.length = i := by rw [ho, List.length_take]; omega
  have k1 : (D = E) = False := eq_false hDE
  have k2 : (E = D) = False := eq_false fun e => hDE e.symm
  have k3 : (D = B) = False := eq_false hDB
  have k4 : (B = D) = False := eq_false fun e => hDB e.symm
  by_cases hil : i < L.length
  · have hstep := restC_step hil
    have hcc := hC L[i] (List.getElem_mem hil)
    have hrn := hrl (i + 1)
    have hri := hrl i
    have hst : o ++ [L[i]] = L.take (i + 1) := by rw [ho, List.take_succ_eq_append_getElem hil]
    obtain ⟨c, hc0⟩ : ∃ c, c = L[i] := ⟨_, rfl⟩
    rw [← hc0] at hstep hcc hst
    obtain ⟨e1, e2, e3, e4⟩ := hcc
    obtain ⟨b3, hb3⟩ : ∃ b3, b3 = restC L (i + 1) := ⟨_, rfl⟩
    rw [← hb3] at hstep hrn
    obtain ⟨b2, hb2⟩ : ∃ b2, b2 = encL bytesB c.add ++ b3 := ⟨_, rfl⟩
    rw [← hb2] at hstep
    obtain ⟨b1, hb1⟩ : ∃ b1, b1 = intB c.drop ++ b2 := ⟨_, rfl⟩
    rw [← hb1] at hstep
    obtain ⟨b0, hb0⟩ : ∃ b0, b0 = restC L i := ⟨_, rfl⟩
    rw [← hb0] at hstep hri ⊢
    have l1 : b1.length ≤ b0.length := by rw [hstep, List.length_append]; omega
    have l2 : b2.length ≤ b1.length := by rw [hb1, List.length_append]; omega
    have q1 := dec1_c G E B hne b0 b1 c.at_ ⟨by omega, by omega⟩ hstep (by omega)
    have q2 := dec1_c G E B hne b1 b2 c.drop ⟨by omega, by omega⟩ hb1 (by omega)
    have q3 := getStrs_c G b2 (by omega)
    have hq := gSs_lines c.add b3 e3 e4
    rw [← hb2] at hq
    rw [hq] at q3
    clear hq
    simp only at q3
    have hy : List.drop (encL bytesB c.add).length (b2.map pbyte) = b3.map pbyte := by rw [hb2, List.map_append, List.drop_left' (by simp)]
    have hyl : (encL bytesB c.add).length ≤ b2.length := by rw [hb2, List.length_append]; omega
    have hyl2 : b2.length - (encL bytesB c.add).length = b3.length := by rw [hb2, List.length_append]; omega
    have htb : List.take b2.length (b2.map pbyte) = b2.map pbyte := List.take_of_length_le (by simp)
    generalize encL bytesB c.add = y at *
    repeat' (first
    | (with_reducible apply W_seq_k; intro nx hnx)
    | (with_reducible first | refine wr 16383 ?_ | refine wd (id := 6) 16383 1 (.op 0 true (.op 1 true (.op 2 true (.op 3 true (.done))))) (by kernel_rfl) ?_ | refine wd (id := 23) 16383 1 (.op 0 true (.op 1 true (.op 2 true (.op 3 true (.op 4 true (.op 5 true (.done))))))) (by kernel_rfl) ?_)
    | (with_reducible refine WL_born (by simp) rfl (by simp) ?_; simp only [elemsOf, nl, bir, simprocAttr])
    | (with_reducible refine WL_bornH (by simp) (by simp) ?_ ?_ ?_; (· simp [frz, frz1, hnm]); (· simp [frz1, hnm, PV.one, Value.oneCell']); simp only [elemsOf, nl, bir, simprocAttr])
    | ((with_reducible first | (apply WL_op; intro nx hnx) | refine Ev_out ?_ | refine wc ?_ | (apply popsD_op; intro nx hnx) | (refine popsD_alt ?_ ?_; intro nx hnx) | (refine pf hnm fun nm hnm => ?_; try simp only [fmb] at hnm) | (refine pborn_im ?_; simp only [elemsOf, nl, bir, simprocAttr]) | (refine pmaybe_k ?_; intro bn hbn)); try (simp (maxSteps := 2000000) (disch := omega) only [ev, ↓evp, PV.cells, PV.one, PV.mem?, Value.cells, simprocAttr, hnm, Tryd.tf0, Tryd.tf1, Tryd.tf2, Tryd.tf3, Tryd.tf4, Tryd.tf5, Tryd.tf9, Tryd.tf24, Tryd.tf27, Tryd.tf28, Tryd.tf37, Tryd.tf48, Tryd.tf52, Tryd.tf58, Tryd.tf112, Tryd.tf114, Tryd.tf115, Tryd.call61, Tryd.call63, hca, hEB, hBE, k1, k2, k3, k4, hy, hyl2, htb, List.length_map, flatC_len, Nat.add_sub_cancel]))
    | ((with_reducible first | apply W_block | apply W_scope | apply WL_nil | apply W_label | apply W_skip | apply W_exit | apply W_ret | apply popsD_done | exact popsD_stop) <;> try simp only [kks, simprocAttr])
    | (with_reducible apply pg <;> (intro hc; (try simp only [hcb, simprocAttr, ne_eq, forall_const] at hc); first | (exfalso; omega) | exact absurd trivial hc | skip))
    | (with_reducible apply hnx; clear hnx nx)
    | (with_reducible refine And.intro (by omega) ?_)
    | (with_reducible refine And.intro ?_ ?_)
    | (with_reducible refine pe (q3) ?_)
    | ((refine pcall_midn [_] [(E, ⟨28, false, 0, [pint .i64 0]⟩), (B, ⟨27, false, 0, [.list 1 (b0.map pbyte)]⟩)] [] rfl q1 ?_; rintro _ _ ⟨rfl, rfl⟩ nd; refine Ev_in ?_))
    | ((refine pcall_midn [_] [(E, ⟨28, false, 0, [pint .i64 0]⟩), (B, ⟨27, false, 0, [.list 1 (b1.map pbyte)]⟩)] [] rfl q2 ?_; rintro _ _ ⟨rfl, rfl⟩ nd; refine Ev_in ?_))
    | (clear hnx nx; with_reducible apply hnx; clear hnx nx)
    | (clear hnx nx; clear hnx nx; with_reducible apply hnx; clear hnx nx))
    all_goals first
      | exact absurd trivial hc
      | (exfalso
         omega)
      | skip
    refine hlp _ (L.length - (i + 1)) ⟨fr 82 [(5, .row nm 3 (o ++ [c]).length), (6, .list 16 [pdh du, pdh dv]), (8, .ptr E 0), (9, .func 62 [.ptr E 0, .ptr B 0]), (10, pint .i64 L.length), (11, pint .i64 (i + 1 : Nat)), (1, .ptr B 0)], [(nm, ⟨52, true, 3, flatC (o ++ [c])⟩), (E, ⟨28, false, 0, [pint .i64 0]⟩), (B, ⟨27, false, 0, [.list 1 (b3.map pbyte)]⟩)]⟩ (by omega) ?_ ⟨i + 1, nm, o ++ [c], by omega, rfl, hst, ⟨by simp [hnm], by simp [hnm]⟩, by rw [hb3]⟩
    rw [flatC_snoc, List.length_append, List.length_cons, List.length_nil]
    refine Wk_fr (by simp only [wkb, simprocAttr]) ?_
    refine ⟨fun x hx => ?_, by simp [names, hnm, hne]⟩
    simp only [List.mem_cons, List.not_mem_nil, or_false] at hx ⊢
    rcases hx with rfl | rfl | rfl
    · exact .inl rfl
    · exact .inr (.inr (.inl rfl))
    · exact .inr (.inr (.inr rfl))
  · have hi2 : i = L.length := by omega
    subst hi2
    rw [List.take_length] at ho
    subst ho
    rw [restC_end (Nat.le_refl _), List.map_nil]
    repeat' (first
    | (with_reducible apply W_seq_k; intro nx hnx)
    | (with_reducible first | refine wr 16383 ?_ | refine wd (id := 6) 16383 1 (.op 0 true (.op 1 true (.op 2 true (.op 3 true (.done))))) (by kernel_rfl) ?_ | refine wd (id := 23) 16383 1 (.op 0 true (.op 1 true (.op 2 true (.op 3 true (.op 4 true (.op 5 true (.done))))))) (by kernel_rfl) ?_)
    | (with_reducible refine WL_born (by simp) rfl (by simp) ?_; simp only [elemsOf, nl, bir, simprocAttr])
    | (with_reducible refine WL_bornH (by simp) (by simp) ?_ ?_ ?_; (· simp [frz, frz1, hnm]); (· simp [frz1, hnm, PV.one, Value.oneCell']); simp only [elemsOf, nl, bir, simprocAttr])
    | ((with_reducible first | (apply WL_op; intro nx hnx) | refine Ev_out ?_ | refine wc ?_ | (apply popsD_op; intro nx hnx) | (refine popsD_alt ?_ ?_; intro nx hnx) | (refine pf hnm fun nm hnm => ?_; try simp only [fmb] at hnm) | (refine pborn_im ?_; simp only [elemsOf, nl, bir, simprocAttr]) | (refine pmaybe_k ?_; intro bn hbn)); try (simp (maxSteps := 2000000) (disch := omega) only [ev, ↓evp, PV.cells, PV.one, PV.mem?, Value.cells, simprocAttr, hnm, Tryd.tf0, Tryd.tf1, Tryd.tf2, Tryd.tf3, Tryd.tf4, Tryd.tf5, Tryd.tf9, Tryd.tf24, Tryd.tf27, Tryd.tf28, Tryd.tf37, Tryd.tf48, Tryd.tf52, Tryd.tf58, Tryd.tf112, Tryd.tf114, Tryd.tf115, Tryd.call61, Tryd.call63, hca, hEB, hBE, k1, k2, k3, k4, List.length_nil]))
    | ((with_reducible first | apply W_block | apply W_scope | apply WL_nil | apply W_label | apply W_skip | apply W_exit | apply W_ret | apply popsD_done | exact popsD_stop) <;> try simp only [kks, simprocAttr])
    | (with_reducible apply pg <;> (intro hc; (try simp only [hcb, simprocAttr, ne_eq, forall_const] at hc); first | (exfalso; omega) | exact absurd trivial hc | skip))
    | (with_reducible apply hnx; clear hnx nx)
    | (with_reducible refine And.intro (by omega) ?_)
    | (with_reducible refine And.intro ?_ ?_)
    | (clear hnx nx; with_reducible apply hnx; clear hnx nx)
    | (clear hnx nx; clear hnx nx; with_reducible apply hnx; clear hnx nx))
    all_goals first
      | exact absurd trivial hc
      | (exfalso
         omega)
      | skip
    refine hfin _ _ (Fin_ret3 rfl rfl rfl (H := [(D, ⟨52, true, 3, flatC o⟩)]) ⟨by simp, by simp [names]⟩ ?_)
    simp only [cob, simprocAttr]
    exact ⟨D, rfl, rfl⟩
theorem elemsOf_flatC (l : List Chg) : elemsOf 3 (flatC l) l.length = l.map Chg.pv := by
  rw [elemsOf, if_neg (by omega), elems_flatC]
theorem decode_c (G : Globs) (du dv : List UInt8) (h1 : du.length = 16) (h2 : dv.length = 16) (L : List Chg) (hL : L.length ≤ 100) (hC : ∀ c ∈ L, (0 ≤ c.at_ ∧ c.at_ ≤ 1000) ∧ (0 ≤ c.drop ∧ c.drop ≤ 1000) ∧ c.add.length ≤ 1000 ∧ ∀ s ∈ c.add, s.length ≤ 1000)
    (M : List UInt8) (hM : M = encL id [du, dv] ++ (intB L.length ++ restC L 0)) (hMl : M.length ≤ 100000) (hrl : ∀ i, (restC L i).length ≤ 100000) :
    PCalls Tryd.prog G 34 [.list 1 (M.map pbyte)] [] (fun res H => res = .tuple [.list 16 [pdh du, pdh dv], .list 3 (L.map Chg.pv), pint .i64 0] ∧ H = []) := by
  refine (decode_r G du dv h1 h2 L hL hC M hM hMl hrl).px fun res H hR => ?_
  obtain ⟨O, rfl, rfl⟩ := hR
  have h3 := Px.freeze (G := G) (.tuple [.list 16 [pdh du, pdh dv], .row O 3 L.length, pint .i64 0]) [(O, ⟨52, true, 3, flatC L⟩)] O (o := ⟨52, true, 3, flatC L⟩) (by simp only [look, if_true]) (by simp [frzOk, del])
  refine ⟨_, _, h3, ?_, by simp [frzH, del]⟩
  simp only [PM.frz, frz1, if_true, List.map_cons, List.map_nil]
  rw [if_pos ⟨by rw [flatC_len]; omega, by omega⟩, elemsOf_flatC]
end Go.PM

namespace Go.PM
open Go.Proofs
/-- A digest out of a signature's rest. -/
def restV (rest : List UInt8) (k : Nat) : List UInt8 := (rest.drop (16 * k)).take 16
theorem restV_len {rest : List UInt8} {n k : Nat} (h : rest.length = n * 16) (hk : k < n) : (restV rest k).length = 16 := by
  rw [restV, List.length_take, List.length_drop, h]
  have : k + 1 ≤ n := hk
  have := Nat.mul_le_mul_right 16 this
  omega
/-- The top of a chain, from where the signature has it. -/
def vfV (i : Int) (dg : List Nat) (rest : List UInt8) (c : Nat) : List UInt8 := advF i c (dg.getD c 0 : Nat) (3 - (dg.getD c 0 : Nat) : Int).toNat (restV rest c)
/-- The way from a leaf to the root. -/
def wayF (rest : List UInt8) (i : Nat) (v : List UInt8) : Nat → List UInt8
  | 0 => v
  | l + 1 => if (i / 2 ^ l) % 2 = 1 then nodeF (restV rest (68 + l)) (wayF rest i v l) else nodeF (wayF rest i v l) (restV rest (68 + l))
theorem wayF_len (rest : List UInt8) (i : Nat) (v : List UInt8) (hv : v.length = 16) : ∀ l, (wayF rest i v l).length = 16
  | 0 => hv
  | l + 1 => by
    rw [wayF]
    split <;> exact nodeF_len _ _
/-- The root that a signature leads to. -/
def rootF (p : List UInt8) (h i : Nat) (m rest : List UInt8) : List UInt8 := wayF rest i (leafF (vfV i (digF (digestF p i m)) rest)) h
/-- What Verify answers. -/
def verF (p : List UInt8) (n : Int) (m s : List UInt8) : Int × Int :=
  if ¬ (0 ≤ n ∧ n ≤ 6) then (0, 1) else if (gI s).2.2 ≠ 0 then (0, (gI s).2.2) else
  if (gI s).1 < 0 ∨ 2 ^ n.toNat ≤ (gI s).1 ∨ (s.drop (gI s).2.1).length ≠ (68 + n.toNat) * 16 then (0, 2) else
  if rootF p n.toNat (gI s).1.toNat m (s.drop (gI s).2.1) = p then ((gI s).1, 0) else (0, 10)
/-- A signature that is made leads to the root of the tree. -/
theorem advF_adv (i c : Int) : ∀ (a b : Nat) (t : Int) (v : List UInt8), advF i c (t + a) b (advF i c t a v) = advF i c t (a + b) v
  | 0, b, t, v => by
    rw [advF, Nat.zero_add]
    congr 1
    omega
  | a + 1, b, t, v => by
    rw [show a + 1 + b = (a + b) + 1 by omega, advF, advF, ← advF_adv i c a b (t + 1) (stepC i c t v)]
    congr 1
    omega
end Go.PM

namespace Go.PM
open Go.Proofs
theorem catF_get {vals : Nat → List UInt8} (h : ∀ c, (vals c).length = 16) : ∀ (n k : Nat) (t : List UInt8), k < n → restV (catF vals n ++ t) k = vals k
  | 0, k, t, hk => absurd hk (by omega)
  | n + 1, k, t, hk => by
    rw [catF_succ, List.append_assoc]
    by_cases h1 : k < n
    · exact catF_get h n k _ h1
    · obtain rfl : k = n := by omega
      rw [restV, List.drop_left' (catF_len h k), List.take_left' (h k)]
theorem catF_congr {f g : Nat → List UInt8} : ∀ n, (∀ c < n, f c = g c) → catF f n = catF g n
  | 0, _ => rfl
  | n + 1, h => by rw [catF_succ, catF_succ, catF_congr n fun c hc => h c (by omega), h n (by omega)]
theorem leafF_congr {f g : Nat → List UInt8} (h : ∀ c < 68, f c = g c) : leafF f = leafF g := by
  rw [leafF, leafF, catF_congr 68 h]
/-- What follows the index in a signature. -/
def sigR (seed : List UInt8) (h i : Nat) (m : List UInt8) : List UInt8 := catF (sigV seed i (digF (digestF (nodeV seed h 0) i m))) 68 ++ catF (patV seed i) h
theorem sigT_eq (seed : List UInt8) (h i : Nat) (m : List UInt8) : sigT seed h i m = intB i ++ sigR seed h i m := by
  rw [sigT, sigR, List.append_assoc]
theorem sigR_len (seed : List UInt8) (h i : Nat) (m : List UInt8) : (sigR seed h i m).length = (68 + h) * 16 := by
  rw [sigR, List.length_append, catF_len (sigV_len _ _ _), catF_len (patV_len _ _)]
  omega
theorem restV_app {a b : List UInt8} {n k : Nat} (ha : a.length = 16 * n) : restV (a ++ b) (n + k) = restV b k := by
  rw [restV, restV, show 16 * (n + k) = 16 * n + 16 * k by omega, ← List.drop_drop, List.drop_left' ha]
theorem sigR_chain (seed : List UInt8) (h i : Nat) (m : List UInt8) (c : Nat) (hc : c < 68) : restV (sigR seed h i m) c = sigV seed i (digF (digestF (nodeV seed h 0) i m)) c :=
  catF_get (sigV_len _ _ _) 68 c _ hc
theorem sigR_path (seed : List UInt8) (h i : Nat) (m : List UInt8) (l : Nat) (hl : l < h) : restV (sigR seed h i m) (68 + l) = patV seed i l := by
  rw [sigR, restV_app (catF_len (sigV_len _ _ _) 68)]
  have := catF_get (patV_len seed i) h l [] hl
  rwa [List.append_nil] at this
theorem way_node (seed : List UInt8) (h i : Nat) (m : List UInt8) : ∀ l, l ≤ h → wayF (sigR seed h i m) i (nodeV seed 0 i) l = nodeV seed l (i / 2 ^ l)
  | 0, _ => by rw [wayF, Nat.pow_zero, Nat.div_one]
  | l + 1, hl => by
    rw [wayF, way_node seed h i m l (by omega), sigR_path seed h i m l (by omega), patV, nodeV, Nat.pow_succ, ← Nat.div_div_eq_div_mul]
    generalize i / 2 ^ l = j
    unfold sib
    split
    · rename_i h1
      rw [show 2 * (j / 2) = j - 1 by omega, show j - 1 + 1 = j by omega]
    · rename_i h1
      rw [show 2 * (j / 2) = j by omega]
theorem top_of (seed : List UInt8) (h i : Nat) (m : List UInt8) (c : Nat) (hc : c < 68) :
    vfV i (digF (digestF (nodeV seed h 0) i m)) (sigR seed h i m) c = topF seed i c := by
  rw [vfV, sigR_chain seed h i m c hc, sigV, topF]
  have hq := digF_lt (digestF (nodeV seed h 0) i m) c
  generalize (digF (digestF (nodeV seed h 0) i m)).getD c 0 = x at *
  have e := advF_adv (i : Int) c x (3 - x) 0 (startF seed i c)
  rw [show ((0 : Int) + x) = x by omega] at e
  rw [show ((x : Int) - 0).toNat = x by omega, show (3 - (x : Int)).toNat = 3 - x by omega, e, show x + (3 - x) = 3 by omega]
  rfl
theorem made_root (seed : List UInt8) (h i : Nat) (m : List UInt8) (hi : i < 2 ^ h) : rootF (nodeV seed h 0) h i m (sigR seed h i m) = nodeV seed h 0 := by
  rw [rootF, leafF_congr (fun c hc => top_of seed h i m c hc), show leafF (topF seed i) = nodeV seed 0 i from rfl, way_node seed h i m h (Nat.le_refl _), Nat.div_eq_of_lt hi]
theorem inR_pow {h i : Nat} (hh : h ≤ 6) (hi : i < 2 ^ h) : inR (i : Int) := by
  have := pow_le64 h hh
  exact ⟨by omega, by omega⟩
/-- What Verify answers to a signature with an index of the tree. -/
theorem verF_app (p : List UInt8) {h i : Nat} (m r : List UInt8) (hh : h ≤ 6) (hi : i < 2 ^ h) :
    verF p h m (intB i ++ r) = if r.length ≠ (68 + h) * 16 then (0, 2) else if rootF p h i m r = p then ((i : Int), 0) else (0, 10) := by
  have hlt : (i : Int) < 2 ^ h := by exact_mod_cast hi
  rw [verF, if_neg (by omega), gI_intB (inR_pow hh hi), if_neg (by simp)]
  simp only [Int.toNat_natCast, List.drop_left]
  by_cases hr : r.length = (68 + h) * 16
  · rw [if_neg (by simp only [hr]; omega), if_neg (show ¬ r.length ≠ (68 + h) * 16 from fun h => h hr)]
  · rw [if_pos (.inr (.inr hr)), if_pos hr]
theorem made_ok (seed : List UInt8) {h i : Nat} (m : List UInt8) (hh : h ≤ 6) (hi : i < 2 ^ h) : verF (nodeV seed h 0) h m (sigT seed h i m) = ((i : Int), 0) := by
  rw [sigT_eq, verF_app _ _ _ hh hi, if_neg (by simpa using sigR_len seed h i m), if_pos (made_root seed h i m hi)]
end Go.PM

namespace Go.PM
open Go.RowKit
/-- The heap, one object turned no more, seen through closures too. -/
def frzD (n : Int) (cells : List PV) (H : Heap) : Heap := (del H n).map fun x => (x.1, { x.2 with cells := x.2.cells.map (frz n cells) })
/-- One object after the other is lent. -/
inductive Lend : List PV → Heap → List PV → Prop
  | done {args args' : List PV} (H : Heap) (h : args = args') : Lend args H args'
  | step {args args' : List PV} {H : Heap} (n : Int) (o : PObj) (hl : look H n = some o) (hone : ∀ x ∈ del H n, ∀ u ∈ x.2.cells, (frz n o.cells u).one = true)
      (h : Lend (args.map (frz n o.cells)) (frzD n o.cells H) args') : Lend args H args'
section
variable {P : Program} {G : Globs} {E : Amb} {A : Nat → Prop} {σ : PState} {a : Act} {w : World} {q : Bool}
theorem ObjRep.frz {n m : Int} {o u : PObj} {A' : Nat → Prop} (hA : ∀ b, A b → A' b) (hn : ∀ b : Nat, n = b → A' b) (ho : ObjRep w A n o) (h : ObjRep w A m u) (hone : ∀ x ∈ u.cells, (PM.frz n o.cells x).one = true) :
    ObjRep w A' m { u with cells := u.cells.map (PM.frz n o.cells) } := by
  rcases h with ⟨g1, g2, g3⟩ | ⟨b, cur, fz, f, rfl, q1, q2, q3, q4⟩ | ⟨b, es, clock, rfl, q1, q2, q3, q5, q6, q4⟩ | ⟨b, x, ps, rfl, q1, q2, q3, q4, q5, q6⟩
  · exact .inl ⟨g1, g2, by simp [g3]⟩
  · refine .inr (.inl ⟨b, cur, fz, f, rfl, q1, q2, ⟨q3.1, fun k1 k2 => by simpa using q3.2 k1 k2⟩, fun j v hv => ?_⟩)
    simp only [List.getElem?_map] at hv
    cases hj : u.cells[j]? with
    | none => rw [hj] at hv; cases hv
    | some x =>
      rw [hj] at hv
      cases hv
      exact ⟨(q4 j x hj).1, hone x (List.mem_of_getElem? hj), frz_rep hA hn ho (q4 j x hj).2.2⟩
  · refine .inr (.inr (.inl ⟨b, es, clock, rfl, q1, q2, by simp [q3], q5, q6, fun j v hv => ?_⟩))
    simp only [List.getElem?_map] at hv
    cases hj : u.cells[j]? with
    | none => rw [hj] at hv; cases hv
    | some x =>
      rw [hj] at hv
      cases hv
      obtain ⟨e, k, v, r1, rfl, r2, r3⟩ := q4 j x hj
      exact ⟨e, k, v, r1, rfl, r2.mono hA (fun _ _ _ _ h => h) (fun _ _ h => h), r3.mono hA (fun _ _ _ _ h => h) (fun _ _ h => h)⟩
  · refine .inr (.inr (.inr ⟨b, x, ps.map (PM.frz n o.cells), rfl, q1, q2, q3, by simp [q4, PM.frz, frz1], by simpa using q5, fun j v hv => ?_⟩))
    rw [List.getElem?_map] at hv
    cases hj : ps[j]? with
    | none => rw [hj] at hv; cases hv
    | some q =>
      rw [hj] at hv
      cases hv
      obtain ⟨v, r1, r2⟩ := q6 j q hj
      exact ⟨v, r1, frz_rep hA hn ho r2⟩
theorem del_mem {n : Int} : ∀ {H : Heap} {x : Int × PObj}, x ∈ del H n → x ∈ H
  | [], x, h => by simp [del] at h
  | y :: H, x, h => by
    obtain ⟨m, o⟩ := y
    simp only [del] at h
    split at h
    · exact .tail _ h
    · rcases List.mem_cons.1 h with h | h
      · exact h ▸ .head _
      · exact .tail _ (del_mem h)
theorem Lend.reps {args args' : List PV} {H : Heap} (h : Lend args H args') : ∀ {A : Nat → Prop} {vals : Array Value}, (∀ n o, (n, o) ∈ H → ObjRep w A n o) →
    (∀ (i : Nat) (p : PV), args[i]? = some p → ∃ v : Value, vals[i]? = some v ∧ Rep w A p v) →
    ∃ A' : Nat → Prop, (∀ b, A b → A' b) ∧ (∀ b, A' b → A b ∨ ∃ o, ((b : Int), o) ∈ H) ∧ args'.length = args.length ∧ ∀ (i : Nat) (p : PV), args'[i]? = some p → ∃ v : Value, vals[i]? = some v ∧ Rep w A' p v := by
  induction h with
  | done H h =>
    intro A vals _ hv
    subst h
    exact ⟨A, fun _ h => h, fun _ h => .inl h, rfl, hv⟩
  | step n o hl hone h ih =>
    rename_i args args' H
    intro A vals ho hv
    have hA : ∀ b, A b → (A b ∨ (b : Int) = n) := fun b h => .inl h
    have hn : ∀ b : Nat, n = b → (A b ∨ (b : Int) = n) := fun b h => .inr h.symm
    have hob := ho n o (look_mem hl)
    obtain ⟨A', a1, a2, a3, a4⟩ := ih (A := fun b => A b ∨ (b : Int) = n) (vals := vals) (by
      intro m u hm
      obtain ⟨⟨m1, u1⟩, h1, e⟩ := List.mem_map.1 hm
      cases e
      exact ObjRep.frz hA hn hob (ho m1 u1 (del_mem h1)) (hone _ h1)) (by
      intro i p hp
      rw [List.getElem?_map] at hp
      cases hj : args[i]? with
      | none => rw [hj] at hp; cases hp
      | some p0 =>
        rw [hj] at hp
        cases hp
        obtain ⟨v, hv1, hr⟩ := hv i p0 hj
        exact ⟨v, hv1, frz_rep hA hn hob hr⟩)
    refine ⟨A', fun b hb => a1 b (.inl hb), fun b hb => ?_, by rw [a3, List.length_map], a4⟩
    rcases a2 b hb with (h | h) | ⟨u, h⟩
    · exact .inl h
    · exact .inr ⟨o, h ▸ look_mem hl⟩
    · obtain ⟨⟨m1, u1⟩, h1, e⟩ := List.mem_map.1 h
      cases e
      exact .inr ⟨u1, del_mem h1⟩
/-- A call by contract to which objects are lent, to be read: what comes back names no memory. -/
theorem pcall_lendL {fn : FuncId} {args : List PV} (args' : List PV) {R : PV → Heap → Prop} {d : Option Tmp} {K : PState → Prop} (hL : Lend args σ.heap args') (hc : PCalls P G fn args' [] R)
    (hk : ∀ res Hout, R res Hout → Hout = [] ∧ Flat res ∧ K (PState.put σ d res)) : @pcallI q P G σ d fn args ⟨K⟩ := by
  intro E A a w vals hs hsz hvals
  obtain ⟨A1, a1, a2, a3, a4⟩ := hL.reps (w := w) (A := A) (vals := vals) hs.objs hvals
  refine (hc w A1 (names σ.heap ++ E.F) vals ?_ (fun g => (hs.globs g).mono a1 (fun _ _ _ _ h => h) (fun _ _ h => h)) (by simp) (by simp) (by simp) (by rw [a3]; exact hsz) a4).mono ?_
  · intro b hb
    rcases a2 b hb with h | ⟨o, h⟩
    · exact hs.lt b h
    · exact (hs.own _ o h b rfl).1
  · rintro e w' ⟨v, A', res, Hout, rfl, hR, hr, hs'⟩
    obtain ⟨rfl, hflat, hK⟩ := hk res Hout hR
    have he : Ext (fun _ => False) w w' := hs'.ext.mono (fun x hx => (List.not_mem_nil hx).elim)
    have hm : ∀ b, A b → ¬ False := fun _ _ h => h
    have hsim : Sim G E A σ a w' := by
      refine ⟨hs.ext.trans he (fun _ _ h => h.elim), fun b hb => Nat.lt_of_lt_of_le (hs.lt b hb) he.size, hs.a0, hs.a1, fun g => (hs.globs g).ext he (fun _ h => h) hm, hs.nodup, fun m o' h => (hs.objs m o' h).ext he (fun _ h => h) hm (fun _ _ h => h), fun m o' h b hb => ?_, hs.neg, hs.defers, hs.size, fun i p hp => ?_⟩
      · obtain ⟨q1, q2, q3⟩ := hs.own m o' h b hb
        exact ⟨Nat.lt_of_lt_of_le q1 he.size, q2, q3⟩
      · obtain ⟨v, hv, hr⟩ := hs.frame i p hp
        exact ⟨v, hv, hr.ext he (fun _ h => h) hm⟩
    exact ⟨v, _, A, rfl, hK, hsim.put d (hflat.rep hr), fun _ => keeps_of_sim hs'⟩
end
end Go.PM

namespace Go.PM
theorem peqs_by16 : ∀ (n : Nat) (d e : List UInt8), d.length = n → e.length = n → peqs (List.replicate n (.int .u8)) (d.map pbyte) (e.map pbyte) = some (decide (d = e))
  | 0, [], [], _, _ => by simp [peqs]
  | n + 1, a :: d, b :: e, h1, h2 => by
    have ih := peqs_by16 n d e (by simpa using h1) (by simpa using h2)
    simp only [List.replicate_succ, List.map_cons, peqs, ih, peq1, if_true]
    congr 1
    have : ((a.toNat : Int) == (b.toNat : Int)) = decide (a = b) := by
      rw [Bool.eq_iff_iff]
      simp only [beq_iff_eq, decide_eq_true_eq]
      exact ⟨fun h => UInt8.toNat_inj.1 (Int.ofNat_inj.1 h), fun h => by rw [h]⟩
    rw [this]
    simp
theorem q16 (a b : List UInt8) (h1 : a.length = 16) (h2 : b.length = 16) : peqs [.int .u8, .int .u8, .int .u8, .int .u8, .int .u8, .int .u8, .int .u8, .int .u8, .int .u8, .int .u8, .int .u8, .int .u8, .int .u8, .int .u8, .int .u8, .int .u8] (a.map pbyte) (b.map pbyte) = some (decide (a = b)) := peqs_by16 16 a b h1 h2
end Go.PM

namespace Go.PM
open Go.Proofs
attribute [local irreducible] W PCalls pcall pcallI WL
set_option maxRecDepth 100000 in
set_option maxHeartbeats 8000000 in
theorem value_c (G : Globs) (r : List UInt8) (n : Nat) (hr : r.length = n * 16) (hn : n ≤ 1000) (k : Nat) (hk : k < n) :
    PCalls Tryd.prog G 57 [pint .i64 k, .iptr [.list 1 (r.map pbyte)] 0] [] (fun res H => res = .agg ((restV r k).map pbyte) ∧ H = []) := by
  have hvl := restV_len hr hk
  have e1 : List.drop (16 * k) (List.take (16 * (k + 1)) (r.map pbyte)) = (restV r k).map pbyte := by
    rw [restV, List.map_take, List.map_drop, List.drop_take, show 16 * (k + 1) - 16 * k = 16 by omega]
  have hml : (r.map pbyte).length = n * 16 := by rw [List.length_map, hr]
  generalize restV r k = x at *
  have hxl : (x.map pbyte).length = 16 := by rw [List.length_map, hvl]
  have tx : List.take 16 (x.map pbyte) = x.map pbyte := List.take_of_length_le (by omega)
  have hxo := all_one_byte x
  have f1 : ((k : Int) * 16).toNat = 16 * k := by omega
  have f2 : (((k : Int) + 1) * 16).toNat = 16 * (k + 1) := by omega
  (refine PCalls_f Tryd.func57 rfl Tryd.ntmps57 Tryd.results57 (by simp) fun fin hfin => ?_; have hnm : True := trivial; simp only [ev, simprocAttr])
  repeat' (first
    | (with_reducible apply W_seq_k; intro nx hnx)
    | (with_reducible first | refine wr 11 ?_)
    | ((with_reducible first | (apply WL_op; intro nx hnx) | refine Ev_out ?_ | refine wc ?_ | (refine pf hnm fun nm hnm => ?_; try simp only [fmb] at hnm) | (refine pm hnm fun nm hnm => ?_; try simp only [fmb] at hnm)); try (simp (maxSteps := 2000000) (disch := omega) only [ev, ↓evp, PV.cells, PV.one, PV.mem?, Value.cells, simprocAttr, hnm, Tryd.tf0, Tryd.tf3, Tryd.tf5, Tryd.tf27, Tryd.tf37, hml, hxl, tx, hxo, e1, f1, f2, flat_pb]))
    | ((with_reducible first | apply W_block | apply W_scope | apply WL_nil | apply W_label | apply W_skip | apply W_exit | apply W_ret) <;> try simp only [kks, simprocAttr])
    | (with_reducible apply hnx; clear hnx nx)
    | (with_reducible refine And.intro (by omega) ?_)
    | (with_reducible refine And.intro ?_ ?_)
    | (clear hnx nx; with_reducible apply hnx; clear hnx nx)
    | (clear hnx nx; clear hnx nx; with_reducible apply hnx; clear hnx nx))
  all_goals first
    | exact rfl
    | (exfalso
       omega)
    | (refine hfin _ _ ?_
       exact Fin_dig (n := nm) (by simp only [fr_getD_cons, Nat.reduceEqDiff, Nat.reduceLT, ↓reduceIte]) (by simp [look, hnm]) hvl ⟨rfl, rfl⟩)
set_option maxRecDepth 100000 in
set_option maxHeartbeats 8000000 in
theorem chain_c (G : Globs) (hG : G 0 = .iptr (KS.map pw) 0) (r : List UInt8) (n : Nat) (hr : r.length = n * 16) (hn : n ≤ 1000) (hn2 : 68 ≤ n) (k : Int) (hk : inR k) (d : List UInt8) (c : Nat) (hc : c < 68) :
    PCalls Tryd.prog G 59 [pint .i64 c, .iptr [pint .i64 k] 0, .iptr [.list 1 ((digF d).map pn')] 0, .iptr [.func 57 [.iptr [.list 1 (r.map pbyte)] 0]] 0] []
      (fun res H => res = .agg ((vfV k (digF d) r c).map pbyte) ∧ H = []) := by
  have hcR : inR (c : Int) := ⟨by omega, by omega⟩
  have hg := digF_get d c hc
  have hgl := digF_lt d c
  have hqn := digF_len d
  generalize digF d = q at *
  have hg3 : (q.map pn').getD c PV.junk = pint .i64 (q.getD c 0 : Nat) := by rw [List.getD_eq_getElem?_getD, hg]; rfl
  have hq2 : (q.map pn').length = 68 := by rw [List.length_map, hqn]
  have d1 := value_c G r n hr hn c (by omega)
  have d2 := adv_c G hG k c (q.getD c 0 : Nat) 3 (restV r c) hk hcR (by omega) (by omega) (by omega) (by omega) (restV_len hr (by omega))
  rw [show advF k c (q.getD c 0 : Nat) (3 - ((q.getD c 0 : Nat) : Int)).toNat (restV r c) = vfV k q r c from rfl] at d2
  have hvl : (vfV k q r c).length = 16 := advF_len _ _ _ _ _ (restV_len hr (by omega))
  generalize vfV k q r c = x at *
  generalize restV r c = y0 at *
  generalize q.getD c 0 = x0 at *
  have hxl : (x.map pbyte).length = 16 := by rw [List.length_map, hvl]
  have tx : List.take 16 (x.map pbyte) = x.map pbyte := List.take_of_length_le (by omega)
  have hxo := all_one_byte x
  have hca : callable Tryd.prog 57 = true := by kernel_rfl
  (refine PCalls_f Tryd.func59 rfl Tryd.ntmps59 Tryd.results59 (by simp) fun fin hfin => ?_; have hnm : True := trivial; simp only [ev, simprocAttr])
  repeat' (first
    | (with_reducible apply W_seq_k; intro nx hnx)
    | (with_reducible first | refine wr 47 ?_ | refine wd (id := 1) 47 3 (.op 0 true (.op 1 true (.op 2 true (.op 3 true (.op 4 true (.op 5 true (.op 6 true (.op 7 true (.op 8 true (.op 9 false (.op 10 false (.done)))))))))))) (by kernel_rfl) ?_)
    | ((with_reducible first | (apply WL_op; intro nx hnx) | refine Ev_out ?_ | refine wc ?_ | (apply popsD_op; intro nx hnx) | (refine popsD_alt ?_ ?_; intro nx hnx) | (refine pf hnm fun nm hnm => ?_; try simp only [fmb] at hnm) | (refine pm hnm fun nm hnm => ?_; try simp only [fmb] at hnm)); try (simp (maxSteps := 2000000) (disch := omega) only [ev, ↓evp, PV.cells, PV.one, PV.mem?, Value.cells, simprocAttr, hnm, Tryd.tf0, Tryd.tf3, Tryd.tf5, Tryd.tf22, Tryd.tf37, Tryd.tf109, Tryd.call45, hca, hg, hg3, hq2, hxl, tx, hxo]))
    | ((with_reducible first | apply W_block | apply W_scope | apply WL_nil | apply W_label | apply W_skip | apply W_exit | apply W_ret | apply popsD_done | exact popsD_stop) <;> try simp only [kks, simprocAttr])
    | (with_reducible apply hnx; clear hnx nx)
    | (with_reducible refine And.intro (by omega) ?_)
    | (with_reducible refine And.intro ?_ ?_)
    | (with_reducible refine pe (d1) ?_)
    | (with_reducible refine pe (d2) ?_)
    | (clear hnx nx; with_reducible apply hnx; clear hnx nx)
    | (clear hnx nx; clear hnx nx; with_reducible apply hnx; clear hnx nx))
  all_goals first
    | exact rfl
    | (exfalso
       omega)
    | (refine hfin _ _ ?_
       exact Fin_dig (n := nm) (by simp only [fr_getD_cons, Nat.reduceEqDiff, Nat.reduceLT, ↓reduceIte]) (by simp [look, hnm]) hvl ⟨rfl, rfl⟩)
end Go.PM

namespace Go.PM
open Go.Proofs
attribute [local irreducible] W PCalls pcall pcallI WL
theorem and_one : ∀ j : _root_.Fin 128, bits .and .i64 (j.val : Int) 1 = ((j.val % 2 : Nat) : Int) := by decide +kernel
theorem value_lend {G : Globs} {σ : PState} {q : Bool} {d : Option Tmp} {K : PState → Prop} (N : Int) (r : List UInt8) (n : Nat) (hr : r.length = n * 16) (hn : n ≤ 1000) (x : PV) (k : Nat) (hk : k < n) (hx : x = pint .i64 k)
    (hl : look σ.heap N = some ⟨27, false, 0, [.list 1 (r.map pbyte)]⟩) (h : K (PState.put σ d (.agg ((restV r k).map pbyte)))) : @pcallI q Tryd.prog G σ d 57 [x, .ptr N 0] ⟨K⟩ := by
  subst hx
  refine pcall_lend (R := fun res H => res = .agg ((restV r k).map pbyte) ∧ H = []) N ⟨27, false, 0, [.list 1 (r.map pbyte)]⟩ hl ?_ ?_
  · have e : [pint .i64 (k : Int), PV.ptr N 0].map (frz1 N [.list 1 (r.map pbyte)]) = [pint .i64 k, .iptr [.list 1 (r.map pbyte)] 0] := by simp [frz1]
    rw [e]
    exact value_c G r n hr hn k hk
  · rintro _ _ ⟨rfl, rfl⟩
    refine ⟨rfl, Flat_all fun c hc => ?_, h⟩
    obtain ⟨b, _, rfl⟩ := List.mem_map.1 hc
    exact ⟨_, rfl⟩
theorem frz_pb (n : Int) (cs : List PV) (l : List UInt8) : ∀ u ∈ l.map pbyte, (frz n cs u).one = true := by
  intro u hu
  obtain ⟨b, _, rfl⟩ := List.mem_map.1 hu
  rfl
set_option maxRecDepth 100000 in
set_option maxHeartbeats 8000000 in
theorem hver_c (G : Globs) (hG : G 0 = .iptr (KS.map pw) 0) (p : List UInt8) (n : Int) (m s : List UInt8) (hp : p.length = 16) (hm : m.length ≤ 4000) (hs : s.length ≤ 4000) :
    PCalls Tryd.prog G 33 [.agg (p.map pbyte), pint .i64 n, pstr m, pstr s] [] (fun res H => res = .tuple [pint .i64 (verF p n m s).1, pint .i64 (verF p n m s).2] ∧ H = []) := by
  have hl0 : (p.map pbyte).length = 16 := by rw [List.length_map, hp]
  have ho0 := all_one_byte p
  have tp : List.take 16 (p.map pbyte) = p.map pbyte := List.take_of_length_le (by omega)
  obtain ⟨v, hv⟩ : ∃ v, v = verF p n m s := ⟨_, rfl⟩
  rw [← hv]
  have c0 := valid_c G n
  (refine PCalls_f Tryd.func33 rfl Tryd.ntmps33 Tryd.results33 (by simp) fun fin hfin => ?_; have hnm : True := trivial; simp only [ev, simprocAttr])
  by_cases hf : 0 ≤ n ∧ n ≤ 6
  · have f1 : ¬ n < 0 := by omega
    have f2 : ¬ 6 < n := by omega
    have c1 := getInt_c G s (by omega)
    rw [show s.map pbyte = bytes s from rfl] at c1
    obtain ⟨x, u, e, hg⟩ : ∃ x u e, gI s = (x, u, e) := ⟨_, _, _, rfl⟩
    rw [hg] at c1
    have hue := gI_le s
    rw [hg] at hue
    simp only at hue
    by_cases he : e = 0
    · subst he
      obtain ⟨h, rfl⟩ : ∃ h : Nat, n = h := ⟨n.toNat, by omega⟩
      have hh : h ≤ 6 := by omega
      have hsh := shl_op ⟨h, by omega⟩
      simp only at hsh
      obtain ⟨w, hw⟩ : ∃ w, w = 2 ^ h := ⟨_, rfl⟩
      have hw64 := pow_le64 h hh
      rw [← hw] at hsh hw64
      obtain ⟨r, hr⟩ : ∃ r, r = s.drop u := ⟨_, rfl⟩
      have hrl : r.length = s.length - u := by rw [hr, List.length_drop]
      have hbr : bytes r = r.map pbyte := rfl
      by_cases hb : x < 0 ∨ (w : Int) ≤ x ∨ r.length ≠ (68 + h) * 16
      · have hv2 : v = (0, 2) := by
          rw [hv, verF, if_neg (by simpa using hf), hg, if_neg (by simp), if_pos]
          simp only [Int.toNat_natCast]
          rw [← hr]
          rw [hw] at hb
          exact_mod_cast hb
        rw [hv2] at hfin
        by_cases h0 : x < 0
        · repeat' (first
    | (with_reducible apply W_seq_k; intro nx hnx)
    | (with_reducible first | refine wr 55340232221128916767 ?_ | refine wd (id := 9) 55340232221128916767 1 (.op 0 true (.op 1 true (.op 2 true (.op 3 true (.op 4 true (.op 5 true (.op 6 true (.op 7 true (.op 8 true (.op 9 true (.op 10 true (.op 11 true (.op 12 true (.op 13 true (.op 14 true (.op 15 true (.done))))))))))))))))) (by kernel_rfl) ?_ | refine wd (id := 18) 55340232221128916767 2 (.op 0 true (.op 1 true (.op 2 true (.op 4 true (.op 3 true (.op 5 false (.op 6 false (.done)))))))) (by kernel_rfl) ?_ | refine wd (id := 19) 55340232221128916767 2 (.op 0 true (.op 1 true (.op 2 true (.op 3 true (.op 4 true (.op 5 false (.op 6 false (.done)))))))) (by kernel_rfl) ?_)
    | ((with_reducible first | (apply WL_op; intro nx hnx) | refine Ev_out ?_ | refine wc ?_ | (apply popsD_op; intro nx hnx) | (refine popsD_alt ?_ ?_; intro nx hnx) | (refine pf hnm fun nm hnm => ?_; try simp only [fmb] at hnm) | (refine pm hnm fun nm hnm => ?_; try simp only [fmb] at hnm)); try (simp (maxSteps := 2000000) (disch := omega) only [ev, ↓evp, PV.cells, PV.one, PV.mem?, Value.cells, simprocAttr, hnm, Tryd.tf0, Tryd.tf1, Tryd.tf2, Tryd.tf3, Tryd.tf4, Tryd.tf5, Tryd.tf9, Tryd.tf22, Tryd.tf27, Tryd.tf28, Tryd.tf37, Tryd.teq37, Tryd.tf106, Tryd.tf109, Tryd.call40, Tryd.call43, Tryd.call44, Tryd.call56, Tryd.call58, Tryd.call60, hl0, ho0, f1, f2, h0, hsh, hue, List.take_length, hbr, List.length_map, ← hr]))
    | ((with_reducible first | apply W_block | apply W_scope | apply WL_nil | apply W_label | apply W_skip | apply W_exit | apply W_ret | apply popsD_done | exact popsD_stop) <;> try simp only [kks, simprocAttr])
    | (with_reducible apply pg <;> (intro hc; (try simp only [hcb, simprocAttr, ne_eq, forall_const] at hc); first | (exfalso; omega) | exact absurd trivial hc | skip))
    | (with_reducible apply hnx; clear hnx nx)
    | (with_reducible refine And.intro (by omega) ?_)
    | (with_reducible refine And.intro ?_ ?_)
    | (with_reducible refine pe (c0) ?_)
    | (with_reducible refine pe (c1) ?_)
    | (clear hnx nx; with_reducible apply hnx; clear hnx nx)
    | (clear hnx nx; clear hnx nx; with_reducible apply hnx; clear hnx nx))
          all_goals first
            | exact rfl
            | (exfalso
               omega)
            | (intro hh
               exfalso
               simp at hh
               omega)
            | (refine hfin _ _ (Fin_ret2 rfl rfl (Sub_nil _) ?_); simp only [cob, simprocAttr]; first | trivial | exact ⟨rfl, by trivial⟩ | (simp; done) | (simp; omega))
        · by_cases h1 : (w : Int) ≤ x
          · repeat' (first
    | (with_reducible apply W_seq_k; intro nx hnx)
    | (with_reducible first | refine wr 55340232221128916767 ?_ | refine wd (id := 9) 55340232221128916767 1 (.op 0 true (.op 1 true (.op 2 true (.op 3 true (.op 4 true (.op 5 true (.op 6 true (.op 7 true (.op 8 true (.op 9 true (.op 10 true (.op 11 true (.op 12 true (.op 13 true (.op 14 true (.op 15 true (.done))))))))))))))))) (by kernel_rfl) ?_ | refine wd (id := 18) 55340232221128916767 2 (.op 0 true (.op 1 true (.op 2 true (.op 4 true (.op 3 true (.op 5 false (.op 6 false (.done)))))))) (by kernel_rfl) ?_ | refine wd (id := 19) 55340232221128916767 2 (.op 0 true (.op 1 true (.op 2 true (.op 3 true (.op 4 true (.op 5 false (.op 6 false (.done)))))))) (by kernel_rfl) ?_)
    | ((with_reducible first | (apply WL_op; intro nx hnx) | refine Ev_out ?_ | refine wc ?_ | (apply popsD_op; intro nx hnx) | (refine popsD_alt ?_ ?_; intro nx hnx) | (refine pf hnm fun nm hnm => ?_; try simp only [fmb] at hnm) | (refine pm hnm fun nm hnm => ?_; try simp only [fmb] at hnm)); try (simp (maxSteps := 2000000) (disch := omega) only [ev, ↓evp, PV.cells, PV.one, PV.mem?, Value.cells, simprocAttr, hnm, Tryd.tf0, Tryd.tf1, Tryd.tf2, Tryd.tf3, Tryd.tf4, Tryd.tf5, Tryd.tf9, Tryd.tf22, Tryd.tf27, Tryd.tf28, Tryd.tf37, Tryd.teq37, Tryd.tf106, Tryd.tf109, Tryd.call40, Tryd.call43, Tryd.call44, Tryd.call56, Tryd.call58, Tryd.call60, hl0, ho0, f1, f2, h0, h1, hsh, hue, List.take_length, hbr, List.length_map, ← hr]))
    | ((with_reducible first | apply W_block | apply W_scope | apply WL_nil | apply W_label | apply W_skip | apply W_exit | apply W_ret | apply popsD_done | exact popsD_stop) <;> try simp only [kks, simprocAttr])
    | (with_reducible apply pg <;> (intro hc; (try simp only [hcb, simprocAttr, ne_eq, forall_const] at hc); first | (exfalso; omega) | exact absurd trivial hc | skip))
    | (with_reducible apply hnx; clear hnx nx)
    | (with_reducible refine And.intro (by omega) ?_)
    | (with_reducible refine And.intro ?_ ?_)
    | (with_reducible refine pe (c0) ?_)
    | (with_reducible refine pe (c1) ?_)
    | (clear hnx nx; with_reducible apply hnx; clear hnx nx)
    | (clear hnx nx; clear hnx nx; with_reducible apply hnx; clear hnx nx))
            all_goals first
              | exact rfl
              | (exfalso
                 omega)
              | (intro hh
                 exfalso
                 simp at hh
                 omega)
              | (refine hfin _ _ (Fin_ret2 rfl rfl (Sub_nil _) ?_); simp only [cob, simprocAttr]; first | trivial | exact ⟨rfl, by trivial⟩ | (simp; done) | (simp; omega))
          · have h2 : ¬ r.length = (68 + h) * 16 := by
              rcases hb with h3 | h3 | h3
              · exact absurd h3 h0
              · exact absurd h3 h1
              · exact h3
            have h3 : ¬ (r.length : Int) = (68 + (h : Int)) * 16 := by omega
            have h4 : x < (w : Int) := by omega
            repeat' (first
    | (with_reducible apply W_seq_k; intro nx hnx)
    | (with_reducible first | refine wr 55340232221128916767 ?_ | refine wd (id := 9) 55340232221128916767 1 (.op 0 true (.op 1 true (.op 2 true (.op 3 true (.op 4 true (.op 5 true (.op 6 true (.op 7 true (.op 8 true (.op 9 true (.op 10 true (.op 11 true (.op 12 true (.op 13 true (.op 14 true (.op 15 true (.done))))))))))))))))) (by kernel_rfl) ?_ | refine wd (id := 18) 55340232221128916767 2 (.op 0 true (.op 1 true (.op 2 true (.op 4 true (.op 3 true (.op 5 false (.op 6 false (.done)))))))) (by kernel_rfl) ?_ | refine wd (id := 19) 55340232221128916767 2 (.op 0 true (.op 1 true (.op 2 true (.op 3 true (.op 4 true (.op 5 false (.op 6 false (.done)))))))) (by kernel_rfl) ?_)
    | ((with_reducible first | (apply WL_op; intro nx hnx) | refine Ev_out ?_ | refine wc ?_ | (apply popsD_op; intro nx hnx) | (refine popsD_alt ?_ ?_; intro nx hnx) | (refine pf hnm fun nm hnm => ?_; try simp only [fmb] at hnm) | (refine pm hnm fun nm hnm => ?_; try simp only [fmb] at hnm)); try (simp (maxSteps := 2000000) (disch := omega) only [ev, ↓evp, PV.cells, PV.one, PV.mem?, Value.cells, simprocAttr, hnm, Tryd.tf0, Tryd.tf1, Tryd.tf2, Tryd.tf3, Tryd.tf4, Tryd.tf5, Tryd.tf9, Tryd.tf22, Tryd.tf27, Tryd.tf28, Tryd.tf37, Tryd.teq37, Tryd.tf106, Tryd.tf109, Tryd.call40, Tryd.call43, Tryd.call44, Tryd.call56, Tryd.call58, Tryd.call60, hl0, ho0, f1, f2, h0, h4, h3, hsh, hue, List.take_length, hbr, List.length_map, ← hr]))
    | ((with_reducible first | apply W_block | apply W_scope | apply WL_nil | apply W_label | apply W_skip | apply W_exit | apply W_ret | apply popsD_done | exact popsD_stop) <;> try simp only [kks, simprocAttr])
    | (with_reducible apply pg <;> (intro hc; (try simp only [hcb, simprocAttr, ne_eq, forall_const] at hc); first | (exfalso; omega) | exact absurd trivial hc | skip))
    | (with_reducible apply hnx; clear hnx nx)
    | (with_reducible refine And.intro (by omega) ?_)
    | (with_reducible refine And.intro ?_ ?_)
    | (with_reducible refine pe (c0) ?_)
    | (with_reducible refine pe (c1) ?_)
    | (clear hnx nx; with_reducible apply hnx; clear hnx nx)
    | (clear hnx nx; clear hnx nx; with_reducible apply hnx; clear hnx nx))
            all_goals first
              | exact rfl
              | (exfalso
                 omega)
              | (intro hh
                 exfalso
                 simp at hh
                 omega)
              | (refine hfin _ _ (Fin_ret2 rfl rfl (Sub_nil _) ?_); simp only [cob, simprocAttr]; first | trivial | exact ⟨rfl, by trivial⟩ | (simp; done) | (simp; omega))
      · have h0 : ¬ x < 0 := fun h => hb (.inl h)
        have h4 : x < (w : Int) := by
          have : ¬ (w : Int) ≤ x := fun h => hb (.inr (.inl h))
          omega
        have h3 : r.length = (68 + h) * 16 := by
          by_cases h5 : r.length = (68 + h) * 16
          · exact h5
          · exact absurd (.inr (.inr h5)) hb
        have h6 : (r.length : Int) = (68 + (h : Int)) * 16 := by omega
        obtain ⟨k, rfl⟩ : ∃ k : Nat, x = k := ⟨x.toNat, by omega⟩
        have hi : inR (k : Int) := ⟨by omega, by omega⟩
        have hroot : v = if rootF p h k m r = p then ((k : Int), 0) else (0, 10) := by
          rw [hv, verF, if_neg (by simpa using hf), hg, if_neg (by simp), if_neg]
          · simp only [Int.toNat_natCast]
            rw [← hr]
          · simp only [Int.toNat_natCast]
            rw [← hr]
            rw [hw] at hb
            exact_mod_cast hb
        have hE : rootF p h k m r = wayF r k (leafF (vfV k (digF (digestF p k m)) r)) h := rfl
        rw [hE] at hroot
        clear hE
        have c2 := hdig_c G hG p k m hp hi hm
        have hdl := digestF_len p k m
        have c3 := dig_c G (digestF p k m) hdl
        have cc := fun c hc => chain_c G hG r (68 + h) h3 (by omega) (by omega) k hi (digestF p k m) c hc
        have cl := leaf_c G hG 59 [.iptr [pint .i64 k] 0, .iptr [.list 1 ((digF (digestF p k m)).map pn')] 0, .iptr [.func 57 [.iptr [.list 1 (r.map pbyte)] 0]] 0] (vfV k (digF (digestF p k m)) r) (fun c hc => advF_len _ _ _ _ _ (restV_len h3 (by omega))) (by kernel_rfl) cc
        clear cc
        have hol := leafF_len (vfV k (digF (digestF p k m)) r)
        have hbr : bytes r = r.map pbyte := rfl
        generalize leafF (vfV k (digF (digestF p k m)) r) = f at *
        generalize digF (digestF p k m) = q at *
        generalize digestF p k m = d at *
        have hmr : (r.map pbyte).length = (68 + h) * 16 := by rw [List.length_map, h3]
        repeat' (first
    | (with_reducible apply W_seq_k; intro nx hnx)
    | (with_reducible first | refine wr 55340232221128916767 ?_ | refine wd (id := 9) 55340232221128916767 1 (.op 0 true (.op 1 true (.op 2 true (.op 3 true (.op 4 true (.op 5 true (.op 6 true (.op 7 true (.op 8 true (.op 9 true (.op 10 true (.op 11 true (.op 12 true (.op 13 true (.op 14 true (.op 15 true (.done))))))))))))))))) (by kernel_rfl) ?_ | refine wd (id := 18) 55340232221128916767 2 (.op 0 true (.op 1 true (.op 2 true (.op 4 true (.op 3 true (.op 5 false (.op 6 false (.done)))))))) (by kernel_rfl) ?_ | refine wd (id := 19) 55340232221128916767 2 (.op 0 true (.op 1 true (.op 2 true (.op 3 true (.op 4 true (.op 5 false (.op 6 false (.done)))))))) (by kernel_rfl) ?_)
    | ((with_reducible first | (apply WL_op; intro nx hnx) | refine Ev_out ?_ | refine wc ?_ | (apply popsD_op; intro nx hnx) | (refine popsD_alt ?_ ?_; intro nx hnx) | (refine pf hnm fun nm hnm => ?_; try simp only [fmb] at hnm) | (refine pm hnm fun nm hnm => ?_; try simp only [fmb] at hnm)); try (simp (maxSteps := 2000000) (disch := omega) only [ev, ↓evp, PV.cells, PV.one, PV.mem?, Value.cells, simprocAttr, hnm, Tryd.tf0, Tryd.tf1, Tryd.tf2, Tryd.tf3, Tryd.tf4, Tryd.tf5, Tryd.tf9, Tryd.tf22, Tryd.tf27, Tryd.tf28, Tryd.tf37, Tryd.teq37, Tryd.tf106, Tryd.tf109, Tryd.call40, Tryd.call43, Tryd.call44, Tryd.call56, Tryd.call58, Tryd.call60, hl0, ho0, tp, f1, f2, h0, h4, h6, h3, hmr, hbr, hsh, hue, List.take_length, ← hr]))
    | ((with_reducible first | apply W_block | apply W_scope | apply WL_nil | apply W_label | apply W_skip | apply W_exit | apply W_ret | apply popsD_done | exact popsD_stop) <;> try simp only [kks, simprocAttr])
    | (with_reducible apply pg <;> (intro hc; (try simp only [hcb, simprocAttr, ne_eq, forall_const] at hc); first | (exfalso; omega) | exact absurd trivial hc | skip))
    | (with_reducible apply hnx; clear hnx nx)
    | (with_reducible refine And.intro (by omega) ?_)
    | (with_reducible refine And.intro ?_ ?_)
    | (with_reducible refine pe (c0) ?_)
    | (with_reducible refine pe (c1) ?_)
    | (with_reducible refine pe (c2) ?_)
    | (with_reducible refine pe (c3) ?_)
    | (clear hnx nx; with_reducible apply hnx; clear hnx nx)
    | (clear hnx nx; clear hnx nx; with_reducible apply hnx; clear hnx nx))
        all_goals first
          | exact absurd trivial hc
          | exact rfl
          | (exfalso
             omega)
          | (intro hh
             exfalso
             simp at hh
             done)
          | (intro hh
             exfalso
             simp at hh
             omega)
          | skip
        obtain ⟨N15, hN15⟩ : ∃ N, N = nm := ⟨_, rfl⟩
        subst hN15
        obtain ⟨N14, hN14⟩ : ∃ N, N = nm := ⟨_, rfl⟩
        subst hN14
        obtain ⟨N13, hN13⟩ : ∃ N, N = nm := ⟨_, rfl⟩
        subst hN13
        obtain ⟨N10, hN10⟩ : ∃ N, N = nm := ⟨_, rfl⟩
        subst hN10
        obtain ⟨NP, hNP⟩ : ∃ N, N = nm := ⟨_, rfl⟩
        subst hNP
        have hpb := frz_pb
        refine pcall_lendL [.func 59 [.iptr [pint .i64 k] 0, .iptr [.list 1 (q.map pn')] 0, .iptr [.func 57 [.iptr [.list 1 (r.map pbyte)] 0]] 0]] (R := fun res H => res = .agg (f.map pbyte) ∧ H = [])
          (.step N13 ⟨27, false, 0, [.list 1 (r.map pbyte)]⟩ (by simp [look, hnm]) (by
            simp only [del, hnm, if_false, if_true, List.forall_mem_cons, List.not_mem_nil, false_implies, implies_true, and_true]
            exact ⟨rfl, rfl, rfl, hpb _ _ _⟩)
          (.step N14 ⟨109, false, 0, [.func 57 [.iptr [.list 1 (r.map pbyte)] 0]]⟩ (by simp [look, frzD, del, frz, frz1, hnm]) (by
            simp [frzD, del, frz, frz1, hnm, PV.one, Value.oneCell'])
          (.step N10 ⟨3, false, 0, [pint .i64 k]⟩ (by simp [look, frzD, del, frz, frz1, hnm]) (by
            simp [frzD, del, frz, frz1, hnm, PV.one, Value.oneCell'])
          (.step N15 ⟨22, false, 0, [.list 1 (q.map pn')]⟩ (by simp [look, frzD, del, frz, frz1, hnm]) (by
            simp [frzD, del, frz, frz1, hnm, PV.one, Value.oneCell'])
          (.done _ (by simp [frz, frz1, hnm])))))) cl ?_
        rintro _ _ ⟨rfl, rfl⟩
        refine ⟨rfl, Flat_all fun c hc => ?_, ?_⟩
        · obtain ⟨b, _, rfl⟩ := List.mem_map.1 hc
          exact ⟨_, rfl⟩
        clear cl c0 c1 c2 c3 hpb hdl
        have hne := hnm
        clear hnm
        have hfo := all_one_byte f
        have hfl : (f.map pbyte).length = 16 := by rw [List.length_map, hol]
        have tf : List.take 16 (f.map pbyte) = f.map pbyte := List.take_of_length_le (by omega)
        obtain ⟨Z, hZ⟩ : ∃ Z, Z = List.replicate 16 (pint .u8 0) := ⟨_, rfl⟩
        have hZ2 : [pint .u8 0, pint .u8 0, pint .u8 0, pint .u8 0, pint .u8 0, pint .u8 0, pint .u8 0, pint .u8 0, pint .u8 0, pint .u8 0, pint .u8 0, pint .u8 0, pint .u8 0, pint .u8 0, pint .u8 0, pint .u8 0] = Z := by rw [hZ]; rfl
        have hZl : Z.length = 16 := by rw [hZ]; rfl
        have hZd : List.drop 16 Z = [] := List.drop_of_length_le (by omega)
        have hZo : Z.all PV.one = true := by rw [hZ]; rfl
        refine Ev_in ?_
        repeat' (first
    | (with_reducible apply W_seq_k; intro nx hnx)
    | (with_reducible first | refine wr 55340232221128916767 ?_ | refine wd (id := 9) 55340232221128916767 1 (.op 0 true (.op 1 true (.op 2 true (.op 3 true (.op 4 true (.op 5 true (.op 6 true (.op 7 true (.op 8 true (.op 9 true (.op 10 true (.op 11 true (.op 12 true (.op 13 true (.op 14 true (.op 15 true (.done))))))))))))))))) (by kernel_rfl) ?_ | refine wd (id := 18) 55340232221128916767 2 (.op 0 true (.op 1 true (.op 2 true (.op 4 true (.op 3 true (.op 5 false (.op 6 false (.done)))))))) (by kernel_rfl) ?_ | refine wd (id := 19) 55340232221128916767 2 (.op 0 true (.op 1 true (.op 2 true (.op 3 true (.op 4 true (.op 5 false (.op 6 false (.done)))))))) (by kernel_rfl) ?_)
    | ((with_reducible first | (apply WL_op; intro nx hnx) | refine Ev_out ?_ | refine wc ?_ | (apply popsD_op; intro nx hnx) | (refine popsD_alt ?_ ?_; intro nx hnx) | (refine pf hnm fun nm hnm => ?_; try simp only [fmb] at hnm) | (refine pm hnm fun nm hnm => ?_; try simp only [fmb] at hnm)); try (simp (maxSteps := 2000000) (disch := omega) only [ev, ↓evp, PV.cells, PV.one, PV.mem?, Value.cells, simprocAttr, hnm, Tryd.tf0, Tryd.tf1, Tryd.tf2, Tryd.tf3, Tryd.tf4, Tryd.tf5, Tryd.tf9, Tryd.tf22, Tryd.tf27, Tryd.tf28, Tryd.tf37, Tryd.teq37, Tryd.tf106, Tryd.tf109, Tryd.call40, Tryd.call43, Tryd.call44, Tryd.call56, Tryd.call58, Tryd.call60, hne, hfo, hfl, tf, hZ2, hZl, hZd, hZo]))
    | ((with_reducible first | apply W_block | apply W_scope | apply WL_nil | apply W_label | apply W_skip | apply W_exit | apply W_ret | apply popsD_done | exact popsD_stop) <;> try simp only [kks, simprocAttr])
    | (with_reducible apply pg <;> (intro hc; (try simp only [hcb, simprocAttr, ne_eq, forall_const] at hc); first | (exfalso; omega) | exact absurd trivial hc | skip))
    | (with_reducible apply hnx; clear hnx nx)
    | (with_reducible refine And.intro (by omega) ?_)
    | (with_reducible refine And.intro ?_ ?_)
    | (clear hnx nx; with_reducible apply hnx; clear hnx nx)
    | (clear hnx nx; clear hnx nx; with_reducible apply hnx; clear hnx nx))
        all_goals first
          | exact rfl
          | (exfalso
             omega)
          | skip
        obtain ⟨NV, hNV⟩ : ∃ N, N = nm := ⟨_, rfl⟩
        subst hNV
        have hway := wayF_len r k f hol
        have hne2 := hnm
        have hca : callable Tryd.prog 57 = true := by kernel_rfl
        refine W_loop_k (fun z τ => ∃ (l : Nat) (y : List UInt8), l ≤ h ∧ z = h - l ∧ y = wayF r k f l ∧
            τ = ⟨fr 90 [(65, pint .i64 l), (64, pint .i64 h), (16, .ptr NV 0), (14, .ptr N14 0), (10, .ptr N10 0), (4, .ptr NP 0)],
              [(NV, ⟨37, false, 0, y.map pbyte⟩), (N14, ⟨109, false, 0, [.func 57 [.ptr N13 0]]⟩), (N13, ⟨27, false, 0, [.list 1 (r.map pbyte)]⟩), (N10, ⟨3, false, 0, [pint .i64 k]⟩), (NP, ⟨37, false, 0, p.map pbyte⟩)]⟩) h
          ⟨fr 90 [(65, pint .i64 (0 : Nat)), (64, pint .i64 h), (16, .ptr NV 0), (14, .ptr N14 0), (10, .ptr N10 0), (4, .ptr NP 0)],
              [(NV, ⟨37, false, 0, f.map pbyte⟩), (N14, ⟨109, false, 0, [.func 57 [.ptr N13 0]]⟩), (N13, ⟨27, false, 0, [.list 1 (r.map pbyte)]⟩), (N10, ⟨3, false, 0, [pint .i64 k]⟩), (NP, ⟨37, false, 0, p.map pbyte⟩)]⟩ (by
          refine Wk_fr (by simp only [wkb, simprocAttr]) ?_
          exact ⟨by simp, by simp [names, hne2, hne]⟩) ⟨0, f, by omega, by omega, rfl, rfl⟩ ?_
        rintro z τ ⟨l, y, hl, rfl, hy, rfl⟩ lp2 hlp2
        have hyl : y.length = 16 := by rw [hy, hway]
        have hoy := all_one_byte y
        have hyl2 : (y.map pbyte).length = 16 := by rw [List.length_map, hyl]
        have ty : List.take 16 (y.map pbyte) = y.map pbyte := List.take_of_length_le (by omega)
        have hyd : List.drop 16 (y.map pbyte) = [] := List.drop_of_length_le (by omega)
        by_cases hlh : l < h
        · have hway2 : wayF r k f (l + 1) = if (k / 2 ^ l) % 2 = 1 then nodeF (restV r (68 + l)) (wayF r k f l) else nodeF (wayF r k f l) (restV r (68 + l)) := rfl
          rw [← hy] at hway2
          have hv16 : (restV r (68 + l)).length = 16 := restV_len h3 (by omega)
          have d2 := node_c G hG (restV r (68 + l)) y hv16 hyl
          have d3 := node_c G hG y (restV r (68 + l)) hyl hv16
          have hn1 := nodeF_len (restV r (68 + l)) y
          have hn2 := nodeF_len y (restV r (68 + l))
          have hwl : (wayF r k f (l + 1)).length = 16 := hway (l + 1)
          have g1 := shr_op k l (by omega)
          have hj64 : k / 2 ^ l ≤ 64 := Nat.le_trans (Nat.div_le_self _ _) (by omega)
          have g2 := and_one ⟨k / 2 ^ l, by omega⟩
          simp only at g2
          have hcx : pint .i64 (68 + (l : Int)) = pint .i64 ((68 + l : Nat) : Int) := congrArg (pint .i64) (by omega)
          have vl := fun (σ : PState) (q : Bool) (d : Option Tmp) (K : PState → Prop) => @value_lend G σ q d K N13 r (68 + h) h3 (by omega) (pint .i64 (68 + (l : Int))) (68 + l) (by omega) hcx
          have hx2 : ((restV r (68 + l)).map pbyte).length = 16 := by rw [List.length_map, hv16]
          have tx : List.take 16 ((restV r (68 + l)).map pbyte) = (restV r (68 + l)).map pbyte := List.take_of_length_le (by omega)
          have hox := all_one_byte (restV r (68 + l))
          generalize restV r (68 + l) = x2 at *
          generalize k / 2 ^ l = j at *
          by_cases hodd : j % 2 = 1
          · rw [if_pos hodd] at hway2
            rw [hodd] at g2
            generalize nodeF x2 y = z2 at *
            have hoz := all_one_byte z2
            have hz2 : (z2.map pbyte).length = 16 := by rw [List.length_map, hn1]
            have tz : List.take 16 (z2.map pbyte) = z2.map pbyte := List.take_of_length_le (by omega)
            repeat' (first
    | (with_reducible apply W_seq_k; intro nx hnx)
    | (with_reducible first | refine wr 55340232221128916767 ?_ | refine wd (id := 9) 55340232221128916767 1 (.op 0 true (.op 1 true (.op 2 true (.op 3 true (.op 4 true (.op 5 true (.op 6 true (.op 7 true (.op 8 true (.op 9 true (.op 10 true (.op 11 true (.op 12 true (.op 13 true (.op 14 true (.op 15 true (.done))))))))))))))))) (by kernel_rfl) ?_ | refine wd (id := 18) 55340232221128916767 2 (.op 0 true (.op 1 true (.op 2 true (.op 4 true (.op 3 true (.op 5 false (.op 6 false (.done)))))))) (by kernel_rfl) ?_ | refine wd (id := 19) 55340232221128916767 2 (.op 0 true (.op 1 true (.op 2 true (.op 3 true (.op 4 true (.op 5 false (.op 6 false (.done)))))))) (by kernel_rfl) ?_)
    | ((with_reducible first | (apply WL_op; intro nx hnx) | refine Ev_out ?_ | refine wc ?_ | (apply popsD_op; intro nx hnx) | (refine popsD_alt ?_ ?_; intro nx hnx) | (refine pf hnm fun nm hnm => ?_; try simp only [fmb] at hnm) | (refine pm hnm fun nm hnm => ?_; try simp only [fmb] at hnm)); try (simp (maxSteps := 2000000) (disch := omega) only [ev, ↓evp, PV.cells, PV.one, PV.mem?, Value.cells, simprocAttr, hnm, Tryd.tf0, Tryd.tf1, Tryd.tf2, Tryd.tf3, Tryd.tf4, Tryd.tf5, Tryd.tf9, Tryd.tf22, Tryd.tf27, Tryd.tf28, Tryd.tf37, Tryd.teq37, Tryd.tf106, Tryd.tf109, Tryd.call40, Tryd.call43, Tryd.call44, Tryd.call56, Tryd.call58, Tryd.call60, hca, hne2, hne, hlh, hoy, hyl2, ty, hyd, hox, hx2, tx, hoz, hz2, tz, g1, g2]))
    | ((with_reducible first | apply W_block | apply W_scope | apply WL_nil | apply W_label | apply W_skip | apply W_exit | apply W_ret | apply popsD_done | exact popsD_stop) <;> try simp only [kks, simprocAttr])
    | (with_reducible apply pg <;> (intro hc; (try simp only [hcb, simprocAttr, ne_eq, forall_const] at hc); first | (exfalso; omega) | exact absurd trivial hc | skip))
    | (with_reducible apply hnx; clear hnx nx)
    | (with_reducible refine And.intro (by omega) ?_)
    | (with_reducible refine And.intro ?_ ?_)
    | (with_reducible refine pe (d2) ?_)
    | ((refine vl _ _ _ _ (by simp [look, hne2, hne]) ?_; refine Ev_in ?_))
    | (clear hnx nx; with_reducible apply hnx; clear hnx nx)
    | (clear hnx nx; clear hnx nx; with_reducible apply hnx; clear hnx nx))
            all_goals first
              | exact rfl
              | (exfalso
                 omega)
              | (refine hlp2 _ (h - (l + 1)) _ (by omega) ?_ ⟨l + 1, z2, by omega, rfl, hway2.symm, rfl⟩
                 refine Wk_fr (by simp only [wkb, simprocAttr]) ?_
                 exact ⟨by simp, by simp [names, hne2, hne]⟩)
          · rw [if_neg hodd] at hway2
            rw [show j % 2 = 0 by omega] at g2
            generalize nodeF y x2 = z2 at *
            have hoz := all_one_byte z2
            have hz2 : (z2.map pbyte).length = 16 := by rw [List.length_map, hn2]
            have tz : List.take 16 (z2.map pbyte) = z2.map pbyte := List.take_of_length_le (by omega)
            repeat' (first
    | (with_reducible apply W_seq_k; intro nx hnx)
    | (with_reducible first | refine wr 55340232221128916767 ?_ | refine wd (id := 9) 55340232221128916767 1 (.op 0 true (.op 1 true (.op 2 true (.op 3 true (.op 4 true (.op 5 true (.op 6 true (.op 7 true (.op 8 true (.op 9 true (.op 10 true (.op 11 true (.op 12 true (.op 13 true (.op 14 true (.op 15 true (.done))))))))))))))))) (by kernel_rfl) ?_ | refine wd (id := 18) 55340232221128916767 2 (.op 0 true (.op 1 true (.op 2 true (.op 4 true (.op 3 true (.op 5 false (.op 6 false (.done)))))))) (by kernel_rfl) ?_ | refine wd (id := 19) 55340232221128916767 2 (.op 0 true (.op 1 true (.op 2 true (.op 3 true (.op 4 true (.op 5 false (.op 6 false (.done)))))))) (by kernel_rfl) ?_)
    | ((with_reducible first | (apply WL_op; intro nx hnx) | refine Ev_out ?_ | refine wc ?_ | (apply popsD_op; intro nx hnx) | (refine popsD_alt ?_ ?_; intro nx hnx) | (refine pf hnm fun nm hnm => ?_; try simp only [fmb] at hnm) | (refine pm hnm fun nm hnm => ?_; try simp only [fmb] at hnm)); try (simp (maxSteps := 2000000) (disch := omega) only [ev, ↓evp, PV.cells, PV.one, PV.mem?, Value.cells, simprocAttr, hnm, Tryd.tf0, Tryd.tf1, Tryd.tf2, Tryd.tf3, Tryd.tf4, Tryd.tf5, Tryd.tf9, Tryd.tf22, Tryd.tf27, Tryd.tf28, Tryd.tf37, Tryd.teq37, Tryd.tf106, Tryd.tf109, Tryd.call40, Tryd.call43, Tryd.call44, Tryd.call56, Tryd.call58, Tryd.call60, hca, hne2, hne, hlh, hoy, hyl2, ty, hyd, hox, hx2, tx, hoz, hz2, tz, g1, g2]))
    | ((with_reducible first | apply W_block | apply W_scope | apply WL_nil | apply W_label | apply W_skip | apply W_exit | apply W_ret | apply popsD_done | exact popsD_stop) <;> try simp only [kks, simprocAttr])
    | (with_reducible apply pg <;> (intro hc; (try simp only [hcb, simprocAttr, ne_eq, forall_const] at hc); first | (exfalso; omega) | exact absurd trivial hc | skip))
    | (with_reducible apply hnx; clear hnx nx)
    | (with_reducible refine And.intro (by omega) ?_)
    | (with_reducible refine And.intro ?_ ?_)
    | (with_reducible refine pe (d3) ?_)
    | ((refine vl _ _ _ _ (by simp [look, hne2, hne]) ?_; refine Ev_in ?_))
    | (clear hnx nx; with_reducible apply hnx; clear hnx nx)
    | (clear hnx nx; clear hnx nx; with_reducible apply hnx; clear hnx nx))
            all_goals first
              | exact rfl
              | (exfalso
                 omega)
              | (refine hlp2 _ (h - (l + 1)) _ (by omega) ?_ ⟨l + 1, z2, by omega, rfl, hway2.symm, rfl⟩
                 refine Wk_fr (by simp only [wkb, simprocAttr]) ?_
                 exact ⟨by simp, by simp [names, hne2, hne]⟩)
        · obtain rfl : l = h := by omega
          have hq := q16 y p hyl hp
          rw [← hy] at hroot
          by_cases hyp : y = p
          · rw [if_pos hyp] at hroot
            rw [decide_eq_true hyp] at hq
            rw [hroot] at hfin
            repeat' (first
    | (with_reducible apply W_seq_k; intro nx hnx)
    | (with_reducible first | refine wr 55340232221128916767 ?_ | refine wd (id := 9) 55340232221128916767 1 (.op 0 true (.op 1 true (.op 2 true (.op 3 true (.op 4 true (.op 5 true (.op 6 true (.op 7 true (.op 8 true (.op 9 true (.op 10 true (.op 11 true (.op 12 true (.op 13 true (.op 14 true (.op 15 true (.done))))))))))))))))) (by kernel_rfl) ?_ | refine wd (id := 18) 55340232221128916767 2 (.op 0 true (.op 1 true (.op 2 true (.op 4 true (.op 3 true (.op 5 false (.op 6 false (.done)))))))) (by kernel_rfl) ?_ | refine wd (id := 19) 55340232221128916767 2 (.op 0 true (.op 1 true (.op 2 true (.op 3 true (.op 4 true (.op 5 false (.op 6 false (.done)))))))) (by kernel_rfl) ?_)
    | ((with_reducible first | (apply WL_op; intro nx hnx) | refine Ev_out ?_ | refine wc ?_ | (apply popsD_op; intro nx hnx) | (refine popsD_alt ?_ ?_; intro nx hnx) | (refine pf hnm fun nm hnm => ?_; try simp only [fmb] at hnm) | (refine pm hnm fun nm hnm => ?_; try simp only [fmb] at hnm)); try (simp (maxSteps := 2000000) (disch := omega) only [ev, ↓evp, PV.cells, PV.one, PV.mem?, Value.cells, simprocAttr, hnm, Tryd.tf0, Tryd.tf1, Tryd.tf2, Tryd.tf3, Tryd.tf4, Tryd.tf5, Tryd.tf9, Tryd.tf22, Tryd.tf27, Tryd.tf28, Tryd.tf37, Tryd.teq37, Tryd.tf106, Tryd.tf109, Tryd.call40, Tryd.call43, Tryd.call44, Tryd.call56, Tryd.call58, Tryd.call60, hlh, hne2, hne, hoy, hyl2, ty, hl0, ho0, tp, hq]))
    | ((with_reducible first | apply W_block | apply W_scope | apply WL_nil | apply W_label | apply W_skip | apply W_exit | apply W_ret | apply popsD_done | exact popsD_stop) <;> try simp only [kks, simprocAttr])
    | (with_reducible apply pg <;> (intro hc; (try simp only [hcb, simprocAttr, ne_eq, forall_const] at hc); first | (exfalso; omega) | exact absurd trivial hc | skip))
    | (with_reducible apply hnx; clear hnx nx)
    | (with_reducible refine And.intro (by omega) ?_)
    | (with_reducible refine And.intro ?_ ?_)
    | (clear hnx nx; with_reducible apply hnx; clear hnx nx)
    | (clear hnx nx; clear hnx nx; with_reducible apply hnx; clear hnx nx))
            all_goals first
              | exact rfl
              | (exfalso
                 omega)
              | (intro hh
                 exfalso
                 simp at hh
                 done)
              | (refine hfin _ _ (Fin_ret2 rfl rfl (Sub_nil _) ?_); simp only [cob, simprocAttr]; first | trivial | exact ⟨rfl, by trivial⟩ | (simp; done) | (simp; omega))
          · rw [if_neg hyp] at hroot
            rw [decide_eq_false hyp] at hq
            rw [hroot] at hfin
            repeat' (first
    | (with_reducible apply W_seq_k; intro nx hnx)
    | (with_reducible first | refine wr 55340232221128916767 ?_ | refine wd (id := 9) 55340232221128916767 1 (.op 0 true (.op 1 true (.op 2 true (.op 3 true (.op 4 true (.op 5 true (.op 6 true (.op 7 true (.op 8 true (.op 9 true (.op 10 true (.op 11 true (.op 12 true (.op 13 true (.op 14 true (.op 15 true (.done))))))))))))))))) (by kernel_rfl) ?_ | refine wd (id := 18) 55340232221128916767 2 (.op 0 true (.op 1 true (.op 2 true (.op 4 true (.op 3 true (.op 5 false (.op 6 false (.done)))))))) (by kernel_rfl) ?_ | refine wd (id := 19) 55340232221128916767 2 (.op 0 true (.op 1 true (.op 2 true (.op 3 true (.op 4 true (.op 5 false (.op 6 false (.done)))))))) (by kernel_rfl) ?_)
    | ((with_reducible first | (apply WL_op; intro nx hnx) | refine Ev_out ?_ | refine wc ?_ | (apply popsD_op; intro nx hnx) | (refine popsD_alt ?_ ?_; intro nx hnx) | (refine pf hnm fun nm hnm => ?_; try simp only [fmb] at hnm) | (refine pm hnm fun nm hnm => ?_; try simp only [fmb] at hnm)); try (simp (maxSteps := 2000000) (disch := omega) only [ev, ↓evp, PV.cells, PV.one, PV.mem?, Value.cells, simprocAttr, hnm, Tryd.tf0, Tryd.tf1, Tryd.tf2, Tryd.tf3, Tryd.tf4, Tryd.tf5, Tryd.tf9, Tryd.tf22, Tryd.tf27, Tryd.tf28, Tryd.tf37, Tryd.teq37, Tryd.tf106, Tryd.tf109, Tryd.call40, Tryd.call43, Tryd.call44, Tryd.call56, Tryd.call58, Tryd.call60, hlh, hne2, hne, hoy, hyl2, ty, hl0, ho0, tp, hq]))
    | ((with_reducible first | apply W_block | apply W_scope | apply WL_nil | apply W_label | apply W_skip | apply W_exit | apply W_ret | apply popsD_done | exact popsD_stop) <;> try simp only [kks, simprocAttr])
    | (with_reducible apply pg <;> (intro hc; (try simp only [hcb, simprocAttr, ne_eq, forall_const] at hc); first | (exfalso; omega) | exact absurd trivial hc | skip))
    | (with_reducible apply hnx; clear hnx nx)
    | (with_reducible refine And.intro (by omega) ?_)
    | (with_reducible refine And.intro ?_ ?_)
    | (clear hnx nx; with_reducible apply hnx; clear hnx nx)
    | (clear hnx nx; clear hnx nx; with_reducible apply hnx; clear hnx nx))
            all_goals first
              | exact rfl
              | (exfalso
                 omega)
              | (intro hh
                 exfalso
                 simp at hh
                 done)
              | (refine hfin _ _ (Fin_ret2 rfl rfl (Sub_nil _) ?_); simp only [cob, simprocAttr]; first | trivial | exact ⟨rfl, by trivial⟩ | (simp; done) | (simp; omega))
    · have hv2 : v = (0, e) := by rw [hv, verF, if_neg (by simpa using hf), hg, if_pos he]
      rw [hv2] at hfin
      rcases gI_err hg with h0 | ⟨rfl, rfl, rfl | rfl⟩
      · exact absurd h0 he
      all_goals
        repeat' (first
    | (with_reducible apply W_seq_k; intro nx hnx)
    | (with_reducible first | refine wr 55340232221128916767 ?_ | refine wd (id := 9) 55340232221128916767 1 (.op 0 true (.op 1 true (.op 2 true (.op 3 true (.op 4 true (.op 5 true (.op 6 true (.op 7 true (.op 8 true (.op 9 true (.op 10 true (.op 11 true (.op 12 true (.op 13 true (.op 14 true (.op 15 true (.done))))))))))))))))) (by kernel_rfl) ?_ | refine wd (id := 18) 55340232221128916767 2 (.op 0 true (.op 1 true (.op 2 true (.op 4 true (.op 3 true (.op 5 false (.op 6 false (.done)))))))) (by kernel_rfl) ?_ | refine wd (id := 19) 55340232221128916767 2 (.op 0 true (.op 1 true (.op 2 true (.op 3 true (.op 4 true (.op 5 false (.op 6 false (.done)))))))) (by kernel_rfl) ?_)
    | ((with_reducible first | (apply WL_op; intro nx hnx) | refine Ev_out ?_ | refine wc ?_ | (apply popsD_op; intro nx hnx) | (refine popsD_alt ?_ ?_; intro nx hnx) | (refine pf hnm fun nm hnm => ?_; try simp only [fmb] at hnm) | (refine pm hnm fun nm hnm => ?_; try simp only [fmb] at hnm)); try (simp (maxSteps := 2000000) (disch := omega) only [ev, ↓evp, PV.cells, PV.one, PV.mem?, Value.cells, simprocAttr, hnm, Tryd.tf0, Tryd.tf1, Tryd.tf2, Tryd.tf3, Tryd.tf4, Tryd.tf5, Tryd.tf9, Tryd.tf22, Tryd.tf27, Tryd.tf28, Tryd.tf37, Tryd.teq37, Tryd.tf106, Tryd.tf109, Tryd.call40, Tryd.call43, Tryd.call44, Tryd.call56, Tryd.call58, Tryd.call60, hl0, ho0, f1, f2]))
    | ((with_reducible first | apply W_block | apply W_scope | apply WL_nil | apply W_label | apply W_skip | apply W_exit | apply W_ret | apply popsD_done | exact popsD_stop) <;> try simp only [kks, simprocAttr])
    | (with_reducible apply pg <;> (intro hc; (try simp only [hcb, simprocAttr, ne_eq, forall_const] at hc); first | (exfalso; omega) | exact absurd trivial hc | skip))
    | (with_reducible apply hnx; clear hnx nx)
    | (with_reducible refine And.intro (by omega) ?_)
    | (with_reducible refine And.intro ?_ ?_)
    | (with_reducible refine pe (c0) ?_)
    | (with_reducible refine pe (c1) ?_)
    | (clear hnx nx; with_reducible apply hnx; clear hnx nx)
    | (clear hnx nx; clear hnx nx; with_reducible apply hnx; clear hnx nx))
        all_goals first
          | exact rfl
          | (exfalso
             omega)
          | (intro hh
             exfalso
             simp at hh
             omega)
          | (refine hfin _ _ (Fin_ret2 rfl rfl (Sub_nil _) ?_); simp only [cob, simprocAttr]; first | trivial | exact ⟨rfl, by trivial⟩ | (simp; done) | (simp; omega))
  · have hv2 : v = (0, 1) := by rw [hv, verF, if_pos hf]
    rw [hv2] at hfin
    by_cases f1 : n < 0
    · repeat' (first
    | (with_reducible apply W_seq_k; intro nx hnx)
    | (with_reducible first | refine wr 55340232221128916767 ?_ | refine wd (id := 9) 55340232221128916767 1 (.op 0 true (.op 1 true (.op 2 true (.op 3 true (.op 4 true (.op 5 true (.op 6 true (.op 7 true (.op 8 true (.op 9 true (.op 10 true (.op 11 true (.op 12 true (.op 13 true (.op 14 true (.op 15 true (.done))))))))))))))))) (by kernel_rfl) ?_ | refine wd (id := 18) 55340232221128916767 2 (.op 0 true (.op 1 true (.op 2 true (.op 4 true (.op 3 true (.op 5 false (.op 6 false (.done)))))))) (by kernel_rfl) ?_ | refine wd (id := 19) 55340232221128916767 2 (.op 0 true (.op 1 true (.op 2 true (.op 3 true (.op 4 true (.op 5 false (.op 6 false (.done)))))))) (by kernel_rfl) ?_)
    | ((with_reducible first | (apply WL_op; intro nx hnx) | refine Ev_out ?_ | refine wc ?_ | (apply popsD_op; intro nx hnx) | (refine popsD_alt ?_ ?_; intro nx hnx) | (refine pf hnm fun nm hnm => ?_; try simp only [fmb] at hnm) | (refine pm hnm fun nm hnm => ?_; try simp only [fmb] at hnm)); try (simp (maxSteps := 2000000) (disch := omega) only [ev, ↓evp, PV.cells, PV.one, PV.mem?, Value.cells, simprocAttr, hnm, Tryd.tf0, Tryd.tf1, Tryd.tf2, Tryd.tf3, Tryd.tf4, Tryd.tf5, Tryd.tf9, Tryd.tf22, Tryd.tf27, Tryd.tf28, Tryd.tf37, Tryd.teq37, Tryd.tf106, Tryd.tf109, Tryd.call40, Tryd.call43, Tryd.call44, Tryd.call56, Tryd.call58, Tryd.call60, hl0, ho0, f1]))
    | ((with_reducible first | apply W_block | apply W_scope | apply WL_nil | apply W_label | apply W_skip | apply W_exit | apply W_ret | apply popsD_done | exact popsD_stop) <;> try simp only [kks, simprocAttr])
    | (with_reducible apply pg <;> (intro hc; (try simp only [hcb, simprocAttr, ne_eq, forall_const] at hc); first | (exfalso; omega) | exact absurd trivial hc | skip))
    | (with_reducible apply hnx; clear hnx nx)
    | (with_reducible refine And.intro (by omega) ?_)
    | (with_reducible refine And.intro ?_ ?_)
    | (with_reducible refine pe (c0) ?_)
    | (clear hnx nx; with_reducible apply hnx; clear hnx nx)
    | (clear hnx nx; clear hnx nx; with_reducible apply hnx; clear hnx nx))
      all_goals first
        | exact rfl
        | (exfalso
           omega)
        | (intro hh
           exfalso
           simp at hh
           omega)
        | (refine hfin _ _ (Fin_ret2 rfl rfl (Sub_nil _) ?_); simp only [cob, simprocAttr]; first | trivial | exact ⟨rfl, by trivial⟩ | (simp; done) | (simp; omega))
    · have f2 : 6 < n := by omega
      repeat' (first
    | (with_reducible apply W_seq_k; intro nx hnx)
    | (with_reducible first | refine wr 55340232221128916767 ?_ | refine wd (id := 9) 55340232221128916767 1 (.op 0 true (.op 1 true (.op 2 true (.op 3 true (.op 4 true (.op 5 true (.op 6 true (.op 7 true (.op 8 true (.op 9 true (.op 10 true (.op 11 true (.op 12 true (.op 13 true (.op 14 true (.op 15 true (.done))))))))))))))))) (by kernel_rfl) ?_ | refine wd (id := 18) 55340232221128916767 2 (.op 0 true (.op 1 true (.op 2 true (.op 4 true (.op 3 true (.op 5 false (.op 6 false (.done)))))))) (by kernel_rfl) ?_ | refine wd (id := 19) 55340232221128916767 2 (.op 0 true (.op 1 true (.op 2 true (.op 3 true (.op 4 true (.op 5 false (.op 6 false (.done)))))))) (by kernel_rfl) ?_)
    | ((with_reducible first | (apply WL_op; intro nx hnx) | refine Ev_out ?_ | refine wc ?_ | (apply popsD_op; intro nx hnx) | (refine popsD_alt ?_ ?_; intro nx hnx) | (refine pf hnm fun nm hnm => ?_; try simp only [fmb] at hnm) | (refine pm hnm fun nm hnm => ?_; try simp only [fmb] at hnm)); try (simp (maxSteps := 2000000) (disch := omega) only [ev, ↓evp, PV.cells, PV.one, PV.mem?, Value.cells, simprocAttr, hnm, Tryd.tf0, Tryd.tf1, Tryd.tf2, Tryd.tf3, Tryd.tf4, Tryd.tf5, Tryd.tf9, Tryd.tf22, Tryd.tf27, Tryd.tf28, Tryd.tf37, Tryd.teq37, Tryd.tf106, Tryd.tf109, Tryd.call40, Tryd.call43, Tryd.call44, Tryd.call56, Tryd.call58, Tryd.call60, hl0, ho0, f1, f2]))
    | ((with_reducible first | apply W_block | apply W_scope | apply WL_nil | apply W_label | apply W_skip | apply W_exit | apply W_ret | apply popsD_done | exact popsD_stop) <;> try simp only [kks, simprocAttr])
    | (with_reducible apply pg <;> (intro hc; (try simp only [hcb, simprocAttr, ne_eq, forall_const] at hc); first | (exfalso; omega) | exact absurd trivial hc | skip))
    | (with_reducible apply hnx; clear hnx nx)
    | (with_reducible refine And.intro (by omega) ?_)
    | (with_reducible refine And.intro ?_ ?_)
    | (with_reducible refine pe (c0) ?_)
    | (clear hnx nx; with_reducible apply hnx; clear hnx nx)
    | (clear hnx nx; clear hnx nx; with_reducible apply hnx; clear hnx nx))
      all_goals first
        | exact rfl
        | (exfalso
           omega)
        | (intro hh
           exfalso
           simp at hh
           omega)
        | (refine hfin _ _ (Fin_ret2 rfl rfl (Sub_nil _) ?_); simp only [cob, simprocAttr]; first | trivial | exact ⟨rfl, by trivial⟩ | (simp; done) | (simp; omega))
end Go.PM

namespace Go.PM
open Go.Proofs
attribute [local irreducible] W PCalls pcall pcallI WL
theorem applyF_mem (w : List (List UInt8)) : ∀ (l : List Chg) (p : Int), ∀ s ∈ applyF w p l, s ∈ w ∨ ∃ c ∈ l, s ∈ c.add
  | [], p, s, hs => by
    rw [applyF] at hs
    exact .inl (List.mem_of_mem_drop hs)
  | c :: l, p, s, hs => by
    rw [applyF, List.mem_append, List.mem_append] at hs
    rcases hs with hs | hs | hs
    · exact .inl (List.mem_of_mem_drop (List.mem_of_mem_take hs))
    · exact .inr ⟨c, List.mem_cons_self, hs⟩
    · rcases applyF_mem w l _ s hs with h | ⟨x, hx, h⟩
      · exact .inl h
      · exact .inr ⟨x, List.mem_cons_of_mem _ hx, h⟩
theorem drops_pos : ∀ l : List Chg, (∀ c ∈ l, 0 ≤ c.drop) → 0 ≤ dropsL l
  | [], _ => by simp [dropsL]
  | c :: l, h => by
    have h1 := drops_pos l fun x hx => h x (List.mem_cons_of_mem _ hx)
    have h2 := h c List.mem_cons_self
    have e : dropsL (c :: l) = c.drop + dropsL l := rfl
    omega
theorem applyL_some {u v w : List (List UInt8)} (hu : Small u) (hv : Small v) (hw : Small w) : (applyL w (diffL u v)).length ≤ 28 ∧ ∀ s ∈ applyL w (diffL u v), s.length ≤ 5 := by
  obtain ⟨d1, d2, d3⟩ := diff_small hu hv
  unfold applyL
  split
  · rename_i hval
    refine ⟨?_, fun s hs => ?_⟩
    · obtain ⟨_, _, _, _, h4⟩ := apply_keeps w (diffL u v) (-1) 0 hval (by omega) (by omega) (.inr ⟨rfl, rfl⟩)
      have h5 := drops_pos (diffL u v) fun c hc => (d3 c hc).2.1.1
      have h6 := hw.1
      omega
    · rcases applyF_mem w _ 0 s hs with h | ⟨c, hc, h⟩
      · exact hw.2 s h
      · exact (d3 c hc).2.2.2 s h
  · simp
set_option maxRecDepth 100000 in
set_option maxHeartbeats 8000000 in
theorem digest_g (G : Globs) (hG : G 0 = .iptr (KS.map pw) 0) (l : List (List UInt8)) (hl1 : l.length ≤ 200) (hl2 : ∀ s ∈ l, s.length ≤ 5) : PCalls Tryd.prog G 22 [.list 1 (l.map pstr)] [] (fun res H => res = .agg ((dgL l).map pbyte) ∧ H = []) := by
  have he := enc5 hl2 (by omega)
  have c1 := wstrs_c G l (fun s hs => by have := hl2 s hs; omega) (by omega) (by omega)
  have c2 := hof_c G hG 5 [encL bytesB l] (all_lt1 (by omega)) (by simp)
  have hd : ofH 5 [encL bytesB l] = dgL l := rfl
  have hol := dgL_len l
  rw [hd] at c2
  have hone := all_one_byte (dgL l)
  have hol2 : ((dgL l).map pbyte).length = 16 := by rw [List.length_map, hol]
  have t3 : List.take 16 ((dgL l).map pbyte) = (dgL l).map pbyte := List.take_of_length_le (by omega)
  have a1 := isByte_pb (encL bytesB l)
  have a2 := unb_pb (encL bytesB l)
  simp only [List.map_cons, List.map_nil] at c2
  generalize dgL l = f at *
  generalize encL bytesB l = E at *
  (refine PCalls_f Tryd.func22 rfl Tryd.ntmps22 Tryd.results22 (by simp) fun fin hfin => ?_; have hnm : True := trivial; simp only [ev, simprocAttr])
  repeat' (first
    | (with_reducible apply W_seq_k; intro nx hnx)
    | (with_reducible first | refine wr 5 ?_)
    | (with_reducible refine WL_born (by simp) rfl (by simp) ?_; simp only [elemsOf, nl, bir, simprocAttr])
    | (with_reducible refine WL_bornH (by simp) (by simp) ?_ ?_ ?_; (· simp [frz, frz1, hnm]); (· simp [frz1, hnm, PV.one, Value.oneCell']); simp only [elemsOf, nl, bir, simprocAttr])
    | ((with_reducible first | (apply WL_op; intro nx hnx) | refine Ev_out ?_ | refine wc ?_ | (refine pf hnm fun nm hnm => ?_; try simp only [fmb] at hnm) | (refine pborn_im ?_; simp only [elemsOf, nl, bir, simprocAttr])); try (simp (maxSteps := 2000000) (disch := omega) only [ev, ↓evp, PV.cells, PV.one, PV.mem?, Value.cells, simprocAttr, hnm, Tryd.tf0, Tryd.tf1, Tryd.tf3, Tryd.tf5, Tryd.tf9, Tryd.tf24, Tryd.tf27, Tryd.tf37, Tryd.call14, Tryd.call15, a1, a2, t3, hol2, hone]))
    | ((with_reducible first | apply W_block | apply W_scope | apply WL_nil | apply W_label | apply W_skip | apply W_exit | apply W_ret) <;> try simp only [kks, simprocAttr])
    | (with_reducible apply hnx; clear hnx nx)
    | (with_reducible refine And.intro (by omega) ?_)
    | (with_reducible refine And.intro ?_ ?_)
    | (with_reducible refine pe (c1) ?_)
    | (with_reducible refine pe (c2) ?_)
    | (clear hnx nx; with_reducible apply hnx; clear hnx nx)
    | (clear hnx nx; clear hnx nx; with_reducible apply hnx; clear hnx nx))
  all_goals first
    | exact rfl
    | exact (by kernel_rfl : Tryd.prog.underlying 5 = some (.int .u8))
    | (refine hfin _ _ ?_
       exact Fin_dig (n := nm) (by simp only [fr_getD_cons, Nat.reduceEqDiff, Nat.reduceLT, ↓reduceIte]) (by simp [look, hnm]) hol ⟨rfl, rfl⟩)
theorem msg_form (u v : List (List UInt8)) : msgM u v = encL id [dgL u, dgL v] ++ (intB (diffL u v).length ++ restC (diffL u v) 0) := by
  rw [msgM, preM, List.take_length, restC, List.drop_zero, List.append_assoc]
theorem msg_rest {u v : List (List UInt8)} (hu : Small u) (hv : Small v) (i : Nat) : (restC (diffL u v) i).length ≤ 100000 := by
  have h1 := restC_le (diffL u v) i
  have h2 := preM_len hu hv (diffL u v).length
  rw [preM, List.take_length, List.length_append] at h2
  omega
/-- What Update gives back of a file that Encode made. -/
def updF (ok : Bool) (u v w : List (List UInt8)) : List (List UInt8) × Int :=
  if ok = false then ([], 10) else if dgL w ≠ dgL u then ([], 19) else if applyE w (diffL u v) ≠ 0 then ([], 2) else if dgL (applyL w (diffL u v)) ≠ dgL v then ([], 24) else (applyL w (diffL u v), 0)
@[reducible] def UpdR (x : List (List UInt8) × Int) (res : PV) (H : Heap) : Prop := H = [] ∧ ((x.2 = 0 ∧ res = .tuple [.list 1 (x.1.map pstr), pint .i64 0]) ∨ (x.1 = [] ∧ res = .tuple [pnil, pint .i64 x.2]))
theorem UpdR.frz {G : Globs} {f : FuncId} {args : List PV} {x : List (List UInt8) × Int} (h : PCalls Tryd.prog G f args [] (UpdR x)) : PCalls Tryd.prog G f args [] (fun res H => res = .tuple [.list 1 (x.1.map pstr), pint .i64 x.2] ∧ H = []) := by
  refine h.px fun res H hR => ?_
  rcases hR with ⟨rfl, ⟨h0, rfl⟩ | ⟨h0, rfl⟩⟩
  · exact ⟨_, _, Px.refl _ _, by rw [h0], rfl⟩
  · rw [h0]
    exact ⟨_, _, Px.nil2 1 _ _, rfl, rfl⟩
set_option maxRecDepth 100000 in
set_option maxHeartbeats 8000000 in
theorem upd_r (G : Globs) (hG : G 0 = .iptr (KS.map pw) 0) (d sg : List UInt8) (hd : d.length = 16) (hsl : sg.length ≤ 4000) (u v w : List (List UInt8)) (hu : Small u) (hv : Small v) (hw : Small w) :
    PCalls Tryd.prog G 12 [pubP d 1, .list 1 ((bytesB (msgM u v) ++ bytesB sg).map pbyte), .list 1 (w.map pstr)] [] (UpdR (updF (decide ((verF d 1 (msgM u v) sg).2 = 0)) u v w)) := by
  obtain ⟨d1, d2, d3⟩ := diff_small hu hv
  have hml : (msgM u v).length ≤ 1100 := preM_len hu hv _
  obtain ⟨r1, r2⟩ := applyL_some hu hv hw
  have v1 := hver_c G hG d 1 (msgM u v) sg hd (by omega) hsl
  have v2 := decode_c G (dgL u) (dgL v) (dgL_len u) (dgL_len v) (diffL u v) (by omega) (fun c hc => by have := d3 c hc; exact ⟨by omega, by omega, by omega, fun s hs => by have := this.2.2.2 s hs; omega⟩) (msgM u v) (msg_form u v) (by omega) (msg_rest hu hv)
  rw [show (msgM u v).map pbyte = bytes (msgM u v) from rfl] at v2
  have v3 := digest_l G hG w hw
  have v4 := digest_g G hG (applyL w (diffL u v)) (by omega) r2
  have v5 := apply_c G w (diffL u v) (by omega) (by have := hw.1; omega) (fun c hc => by have := d3 c hc; omega)
  have q1 := q16 (dgL w) (dgL u) (dgL_len w) (dgL_len u)
  have q2 := q16 (dgL (applyL w (diffL u v))) (dgL v) (dgL_len _) (dgL_len v)
  obtain ⟨F, hF⟩ : ∃ F, F = bytesB (msgM u v) ++ bytesB sg := ⟨_, rfl⟩
  have g1 := getBytes_c G F (by
    have h1 := bytesB_len (msgM u v) (by omega)
    have h2 := bytesB_len sg (by omega)
    rw [hF, List.length_append]
    omega)
  have g2 := getBytes_c G (bytesB sg) (by
    have h2 := bytesB_len sg (by omega)
    omega)
  have hg1 := gS_enc (msgM u v) (bytesB sg) (by omega)
  have hg2 := gS_enc sg [] (by omega)
  rw [List.append_nil] at hg2
  rw [hF, hg1, ← hF] at g1
  rw [hg2] at g2
  clear hg1 hg2
  simp only [s3] at g1 g2
  have hsl1 : List.drop (bytesB (msgM u v)).length (F.map pbyte) = (bytesB sg).map pbyte := by
    rw [hF, List.map_append, List.drop_left' (by simp)]
  have hFl : F.length = (bytesB (msgM u v)).length + (bytesB sg).length := by rw [hF, List.length_append]
  have hFl2 : (bytesB (msgM u v)).length + (bytesB sg).length ≤ 10000 := by
    have h1 := bytesB_len (msgM u v) (by omega)
    have h2 := bytesB_len sg (by omega)
    omega
  have hFt : List.take F.length (F.map pbyte) = F.map pbyte := List.take_of_length_le (by simp)
  have hFt2 : List.take ((bytesB (msgM u v)).length + (bytesB sg).length) (F.map pbyte) = F.map pbyte := by rw [← hFl, hFt]
  have b1 := isByte_pb (msgM u v)
  have b2 := unb_pb (msgM u v)
  have p1 := dgL_len w
  have p2 := dgL_len u
  have p3 := dgL_len v
  have p4 := dgL_len (applyL w (diffL u v))
  obtain ⟨X, hX⟩ : ∃ X, X = updF (decide ((verF d 1 (msgM u v) sg).2 = 0)) u v w := ⟨_, rfl⟩
  rw [← hX]
  unfold updF at hX
  rw [← hF]
  clear hF d1 d2 d3 r1 r2
  generalize verF d 1 (msgM u v) sg = ve at *
  generalize applyE w (diffL u v) = ae at *
  generalize dgL (applyL w (diffL u v)) = da at *
  generalize applyL w (diffL u v) = al at *
  generalize diffL u v = L at *
  generalize bytesB (msgM u v) = y1 at *
  generalize bytesB sg = y2 at *
  generalize msgM u v = M at *
  generalize dgL w = dw at *
  generalize dgL u = du at *
  generalize dgL v = dv at *
  obtain ⟨ix, er⟩ := ve
  simp only at v1
  have hl1 : (d.map pbyte).length = 16 := by rw [List.length_map, hd]
  have o1 := all_one_byte d
  have tk : ∀ y : PV, List.take 16 (d.map pbyte ++ [y]) = d.map pbyte := fun y => List.take_left' hl1
  have l17 : ∀ y : PV, (d.map pbyte ++ [y]).length = 17 := fun y => by rw [List.length_append, hl1]; rfl
  have o2 : (d.map pbyte ++ [pint .i64 1]).all PV.one = true := by rw [List.all_append, o1]; rfl
  have g16 : ∀ y : PV, (d.map pbyte ++ [y])[16]? = some y := fun y => by rw [List.getElem?_append_right (by omega), hl1]; rfl
  have t1 : List.take 16 (du.map pbyte) = du.map pbyte := List.take_of_length_le (by rw [List.length_map]; omega)
  have t2 : List.take 16 (dv.map pbyte) = dv.map pbyte := List.take_of_length_le (by rw [List.length_map]; omega)
  have m1 : (du.map pbyte).length = 16 := by rw [List.length_map, p2]
  have m2 : (dv.map pbyte).length = 16 := by rw [List.length_map, p3]
  (refine PCalls_f Tryd.func12 rfl Tryd.ntmps12 Tryd.results12 (by simp) fun fin hfin => ?_; have hnm : True := trivial; simp only [ev, simprocAttr])
  by_cases k1 : er = 0
  · subst k1
    rw [if_neg (by simp)] at hX
    by_cases k2 : dw = du
    · rw [if_neg (by simpa using k2)] at hX
      subst k2
      by_cases k3 : ae = 0
      · rw [if_neg (by simpa using k3)] at hX
        subst k3
        by_cases k4 : da = dv
        · rw [if_neg (by simpa using k4)] at hX
          subst k4
          rw [hX] at hfin
          repeat' (first
    | (with_reducible apply W_seq_k; intro nx hnx)
    | (with_reducible first | refine wr 253903 ?_ | refine wd (id := 15) 253903 1 (.op 0 true (.op 2 true (.op 3 true (.op 4 true (.op 1 true (.op 5 true (.done))))))) (by kernel_rfl) ?_ | refine wd (id := 20) 253903 1 (.op 0 true (.op 2 true (.op 3 true (.op 4 true (.op 1 true (.op 5 true (.done))))))) (by kernel_rfl) ?_)
    | (with_reducible refine WL_born (by simp) rfl (by simp) ?_; simp only [elemsOf, nl, bir, simprocAttr])
    | (with_reducible refine WL_bornH (by simp) (by simp) ?_ ?_ ?_; (· simp [frz, frz1, hnm]); (· simp [frz1, hnm, PV.one, Value.oneCell']); simp only [elemsOf, nl, bir, simprocAttr])
    | ((with_reducible first | (apply WL_op; intro nx hnx) | refine Ev_out ?_ | refine wc ?_ | (apply popsD_op; intro nx hnx) | (refine popsD_alt ?_ ?_; intro nx hnx) | (refine pf hnm fun nm hnm => ?_; try simp only [fmb] at hnm) | (refine pborn_im ?_; simp only [elemsOf, nl, bir, simprocAttr]) | (refine pmaybe_k ?_; intro bn hbn)); try (simp (maxSteps := 2000000) (disch := omega) only [ev, ↓evp, PV.cells, PV.one, PV.mem?, Value.cells, simprocAttr, hnm, Tryd.tf0, Tryd.tf1, Tryd.tf2, Tryd.tf3, Tryd.tf4, Tryd.tf5, Tryd.tf9, Tryd.tf24, Tryd.tf27, Tryd.tf28, Tryd.tf37, Tryd.teq37, Tryd.tf39, Tryd.tf42, Tryd.tf48, Tryd.tf52, Tryd.tf58, Tryd.tf68, Tryd.tf70, Tryd.tf72, Tryd.call17, Tryd.call22, Tryd.call32, Tryd.call33, Tryd.call34, hl1, o1, o2, tk, l17, g16, hsl1, hFt, hFt2, b1, b2, q1, q2, t1, t2, m1, m2, List.length_map]))
    | ((with_reducible first | apply W_block | apply W_scope | apply WL_nil | apply W_label | apply W_skip | apply W_exit | apply W_ret | apply popsD_done | exact popsD_stop) <;> try simp only [kks, simprocAttr])
    | (with_reducible apply pg <;> (intro hc; (try simp only [hcb, simprocAttr, ne_eq, forall_const] at hc); first | (exfalso; omega) | exact absurd trivial hc | skip))
    | (with_reducible apply hnx; clear hnx nx)
    | (with_reducible refine And.intro (by omega) ?_)
    | (with_reducible refine And.intro ?_ ?_)
    | (with_reducible refine pe (g1) ?_)
    | (with_reducible refine pe (g2) ?_)
    | (with_reducible refine pe (v1) ?_)
    | (with_reducible refine pe (v2) ?_)
    | (with_reducible refine pe (v3) ?_)
    | (with_reducible refine pe (v4) ?_)
    | (with_reducible refine pe (v5) ?_)
    | (clear hnx nx; with_reducible apply hnx; clear hnx nx)
    | (clear hnx nx; clear hnx nx; with_reducible apply hnx; clear hnx nx))
          all_goals first
            | exact absurd trivial hc
            | (exfalso
               omega)
            | exact (by kernel_rfl : Tryd.prog.underlying 5 = some (.int .u8))
            | skip
          refine hfin _ _ (Fin_ret2 rfl rfl (Sub_nil _) ?_)
          simp only [cob, simprocAttr]
          exact ⟨rfl, .inl ⟨rfl, rfl⟩⟩
        · rw [if_pos k4] at hX
          rw [hX] at hfin
          repeat' (first
    | (with_reducible apply W_seq_k; intro nx hnx)
    | (with_reducible first | refine wr 253903 ?_ | refine wd (id := 15) 253903 1 (.op 0 true (.op 2 true (.op 3 true (.op 4 true (.op 1 true (.op 5 true (.done))))))) (by kernel_rfl) ?_ | refine wd (id := 20) 253903 1 (.op 0 true (.op 2 true (.op 3 true (.op 4 true (.op 1 true (.op 5 true (.done))))))) (by kernel_rfl) ?_)
    | (with_reducible refine WL_born (by simp) rfl (by simp) ?_; simp only [elemsOf, nl, bir, simprocAttr])
    | (with_reducible refine WL_bornH (by simp) (by simp) ?_ ?_ ?_; (· simp [frz, frz1, hnm]); (· simp [frz1, hnm, PV.one, Value.oneCell']); simp only [elemsOf, nl, bir, simprocAttr])
    | ((with_reducible first | (apply WL_op; intro nx hnx) | refine Ev_out ?_ | refine wc ?_ | (apply popsD_op; intro nx hnx) | (refine popsD_alt ?_ ?_; intro nx hnx) | (refine pf hnm fun nm hnm => ?_; try simp only [fmb] at hnm) | (refine pborn_im ?_; simp only [elemsOf, nl, bir, simprocAttr]) | (refine pmaybe_k ?_; intro bn hbn)); try (simp (maxSteps := 2000000) (disch := omega) only [ev, ↓evp, PV.cells, PV.one, PV.mem?, Value.cells, simprocAttr, hnm, Tryd.tf0, Tryd.tf1, Tryd.tf2, Tryd.tf3, Tryd.tf4, Tryd.tf5, Tryd.tf9, Tryd.tf24, Tryd.tf27, Tryd.tf28, Tryd.tf37, Tryd.teq37, Tryd.tf39, Tryd.tf42, Tryd.tf48, Tryd.tf52, Tryd.tf58, Tryd.tf68, Tryd.tf70, Tryd.tf72, Tryd.call17, Tryd.call22, Tryd.call32, Tryd.call33, Tryd.call34, hl1, o1, o2, tk, l17, g16, hsl1, hFt, hFt2, b1, b2, q1, q2, t1, t2, m1, m2, List.length_map, k4]))
    | ((with_reducible first | apply W_block | apply W_scope | apply WL_nil | apply W_label | apply W_skip | apply W_exit | apply W_ret | apply popsD_done | exact popsD_stop) <;> try simp only [kks, simprocAttr])
    | (with_reducible apply pg <;> (intro hc; (try simp only [hcb, simprocAttr, ne_eq, forall_const] at hc); first | (exfalso; omega) | exact absurd trivial hc | skip))
    | (with_reducible apply hnx; clear hnx nx)
    | (with_reducible refine And.intro (by omega) ?_)
    | (with_reducible refine And.intro ?_ ?_)
    | (with_reducible refine pe (g1) ?_)
    | (with_reducible refine pe (g2) ?_)
    | (with_reducible refine pe (v1) ?_)
    | (with_reducible refine pe (v2) ?_)
    | (with_reducible refine pe (v3) ?_)
    | (with_reducible refine pe (v4) ?_)
    | (with_reducible refine pe (v5) ?_)
    | (clear hnx nx; with_reducible apply hnx; clear hnx nx)
    | (clear hnx nx; clear hnx nx; with_reducible apply hnx; clear hnx nx))
          all_goals first
            | exact absurd trivial hc
            | (exfalso
               omega)
            | exact (by kernel_rfl : Tryd.prog.underlying 5 = some (.int .u8))
            | skip
          refine hfin _ _ (Fin_ret2 rfl rfl (Sub_nil _) ?_)
          simp only [cob, simprocAttr]
          exact ⟨rfl, .inr ⟨rfl, rfl⟩⟩
      · rw [if_pos k3] at hX
        rw [hX] at hfin
        repeat' (first
    | (with_reducible apply W_seq_k; intro nx hnx)
    | (with_reducible first | refine wr 253903 ?_ | refine wd (id := 15) 253903 1 (.op 0 true (.op 2 true (.op 3 true (.op 4 true (.op 1 true (.op 5 true (.done))))))) (by kernel_rfl) ?_ | refine wd (id := 20) 253903 1 (.op 0 true (.op 2 true (.op 3 true (.op 4 true (.op 1 true (.op 5 true (.done))))))) (by kernel_rfl) ?_)
    | (with_reducible refine WL_born (by simp) rfl (by simp) ?_; simp only [elemsOf, nl, bir, simprocAttr])
    | (with_reducible refine WL_bornH (by simp) (by simp) ?_ ?_ ?_; (· simp [frz, frz1, hnm]); (· simp [frz1, hnm, PV.one, Value.oneCell']); simp only [elemsOf, nl, bir, simprocAttr])
    | ((with_reducible first | (apply WL_op; intro nx hnx) | refine Ev_out ?_ | refine wc ?_ | (apply popsD_op; intro nx hnx) | (refine popsD_alt ?_ ?_; intro nx hnx) | (refine pf hnm fun nm hnm => ?_; try simp only [fmb] at hnm) | (refine pborn_im ?_; simp only [elemsOf, nl, bir, simprocAttr]) | (refine pmaybe_k ?_; intro bn hbn)); try (simp (maxSteps := 2000000) (disch := omega) only [ev, ↓evp, PV.cells, PV.one, PV.mem?, Value.cells, simprocAttr, hnm, Tryd.tf0, Tryd.tf1, Tryd.tf2, Tryd.tf3, Tryd.tf4, Tryd.tf5, Tryd.tf9, Tryd.tf24, Tryd.tf27, Tryd.tf28, Tryd.tf37, Tryd.teq37, Tryd.tf39, Tryd.tf42, Tryd.tf48, Tryd.tf52, Tryd.tf58, Tryd.tf68, Tryd.tf70, Tryd.tf72, Tryd.call17, Tryd.call22, Tryd.call32, Tryd.call33, Tryd.call34, hl1, o1, o2, tk, l17, g16, hsl1, hFt, hFt2, b1, b2, q1, q2, t1, t2, m1, m2, List.length_map, k3]))
    | ((with_reducible first | apply W_block | apply W_scope | apply WL_nil | apply W_label | apply W_skip | apply W_exit | apply W_ret | apply popsD_done | exact popsD_stop) <;> try simp only [kks, simprocAttr])
    | (with_reducible apply pg <;> (intro hc; (try simp only [hcb, simprocAttr, ne_eq, forall_const] at hc); first | (exfalso; omega) | exact absurd trivial hc | skip))
    | (with_reducible apply hnx; clear hnx nx)
    | (with_reducible refine And.intro (by omega) ?_)
    | (with_reducible refine And.intro ?_ ?_)
    | (with_reducible refine pe (g1) ?_)
    | (with_reducible refine pe (g2) ?_)
    | (with_reducible refine pe (v1) ?_)
    | (with_reducible refine pe (v2) ?_)
    | (with_reducible refine pe (v3) ?_)
    | (with_reducible refine pe (v5) ?_)
    | (clear hnx nx; with_reducible apply hnx; clear hnx nx)
    | (clear hnx nx; clear hnx nx; with_reducible apply hnx; clear hnx nx))
        all_goals first
          | exact absurd trivial hc
          | (exfalso
             omega)
          | exact (by kernel_rfl : Tryd.prog.underlying 5 = some (.int .u8))
          | skip
        refine hfin _ _ (Fin_ret2 rfl rfl (Sub_nil _) ?_)
        simp only [cob, simprocAttr]
        exact ⟨rfl, .inr ⟨rfl, rfl⟩⟩
    · rw [if_pos k2] at hX
      rw [hX] at hfin
      repeat' (first
    | (with_reducible apply W_seq_k; intro nx hnx)
    | (with_reducible first | refine wr 253903 ?_ | refine wd (id := 15) 253903 1 (.op 0 true (.op 2 true (.op 3 true (.op 4 true (.op 1 true (.op 5 true (.done))))))) (by kernel_rfl) ?_ | refine wd (id := 20) 253903 1 (.op 0 true (.op 2 true (.op 3 true (.op 4 true (.op 1 true (.op 5 true (.done))))))) (by kernel_rfl) ?_)
    | (with_reducible refine WL_born (by simp) rfl (by simp) ?_; simp only [elemsOf, nl, bir, simprocAttr])
    | (with_reducible refine WL_bornH (by simp) (by simp) ?_ ?_ ?_; (· simp [frz, frz1, hnm]); (· simp [frz1, hnm, PV.one, Value.oneCell']); simp only [elemsOf, nl, bir, simprocAttr])
    | ((with_reducible first | (apply WL_op; intro nx hnx) | refine Ev_out ?_ | refine wc ?_ | (apply popsD_op; intro nx hnx) | (refine popsD_alt ?_ ?_; intro nx hnx) | (refine pf hnm fun nm hnm => ?_; try simp only [fmb] at hnm) | (refine pborn_im ?_; simp only [elemsOf, nl, bir, simprocAttr]) | (refine pmaybe_k ?_; intro bn hbn)); try (simp (maxSteps := 2000000) (disch := omega) only [ev, ↓evp, PV.cells, PV.one, PV.mem?, Value.cells, simprocAttr, hnm, Tryd.tf0, Tryd.tf1, Tryd.tf2, Tryd.tf3, Tryd.tf4, Tryd.tf5, Tryd.tf9, Tryd.tf24, Tryd.tf27, Tryd.tf28, Tryd.tf37, Tryd.teq37, Tryd.tf39, Tryd.tf42, Tryd.tf48, Tryd.tf52, Tryd.tf58, Tryd.tf68, Tryd.tf70, Tryd.tf72, Tryd.call17, Tryd.call22, Tryd.call32, Tryd.call33, Tryd.call34, hl1, o1, o2, tk, l17, g16, hsl1, hFt, hFt2, b1, b2, q1, q2, t1, t2, m1, m2, List.length_map, k2]))
    | ((with_reducible first | apply W_block | apply W_scope | apply WL_nil | apply W_label | apply W_skip | apply W_exit | apply W_ret | apply popsD_done | exact popsD_stop) <;> try simp only [kks, simprocAttr])
    | (with_reducible apply pg <;> (intro hc; (try simp only [hcb, simprocAttr, ne_eq, forall_const] at hc); first | (exfalso; omega) | exact absurd trivial hc | skip))
    | (with_reducible apply hnx; clear hnx nx)
    | (with_reducible refine And.intro (by omega) ?_)
    | (with_reducible refine And.intro ?_ ?_)
    | (with_reducible refine pe (g1) ?_)
    | (with_reducible refine pe (g2) ?_)
    | (with_reducible refine pe (v1) ?_)
    | (with_reducible refine pe (v2) ?_)
    | (with_reducible refine pe (v3) ?_)
    | (clear hnx nx; with_reducible apply hnx; clear hnx nx)
    | (clear hnx nx; clear hnx nx; with_reducible apply hnx; clear hnx nx))
      all_goals first
        | exact absurd trivial hc
        | (exfalso
           omega)
        | exact (by kernel_rfl : Tryd.prog.underlying 5 = some (.int .u8))
        | skip
      refine hfin _ _ (Fin_ret2 rfl rfl (Sub_nil _) ?_)
      simp only [cob, simprocAttr]
      exact ⟨rfl, .inr ⟨rfl, rfl⟩⟩
  · rw [if_pos (by simpa using k1)] at hX
    rw [hX] at hfin
    repeat' (first
    | (with_reducible apply W_seq_k; intro nx hnx)
    | (with_reducible first | refine wr 253903 ?_ | refine wd (id := 15) 253903 1 (.op 0 true (.op 2 true (.op 3 true (.op 4 true (.op 1 true (.op 5 true (.done))))))) (by kernel_rfl) ?_ | refine wd (id := 20) 253903 1 (.op 0 true (.op 2 true (.op 3 true (.op 4 true (.op 1 true (.op 5 true (.done))))))) (by kernel_rfl) ?_)
    | (with_reducible refine WL_born (by simp) rfl (by simp) ?_; simp only [elemsOf, nl, bir, simprocAttr])
    | (with_reducible refine WL_bornH (by simp) (by simp) ?_ ?_ ?_; (· simp [frz, frz1, hnm]); (· simp [frz1, hnm, PV.one, Value.oneCell']); simp only [elemsOf, nl, bir, simprocAttr])
    | ((with_reducible first | (apply WL_op; intro nx hnx) | refine Ev_out ?_ | refine wc ?_ | (apply popsD_op; intro nx hnx) | (refine popsD_alt ?_ ?_; intro nx hnx) | (refine pf hnm fun nm hnm => ?_; try simp only [fmb] at hnm) | (refine pborn_im ?_; simp only [elemsOf, nl, bir, simprocAttr]) | (refine pmaybe_k ?_; intro bn hbn)); try (simp (maxSteps := 2000000) (disch := omega) only [ev, ↓evp, PV.cells, PV.one, PV.mem?, Value.cells, simprocAttr, hnm, Tryd.tf0, Tryd.tf1, Tryd.tf2, Tryd.tf3, Tryd.tf4, Tryd.tf5, Tryd.tf9, Tryd.tf24, Tryd.tf27, Tryd.tf28, Tryd.tf37, Tryd.teq37, Tryd.tf39, Tryd.tf42, Tryd.tf48, Tryd.tf52, Tryd.tf58, Tryd.tf68, Tryd.tf70, Tryd.tf72, Tryd.call17, Tryd.call22, Tryd.call32, Tryd.call33, Tryd.call34, hl1, o1, o2, tk, l17, g16, hsl1, hFt, hFt2, b1, b2, q1, q2, t1, t2, m1, m2, List.length_map]))
    | ((with_reducible first | apply W_block | apply W_scope | apply WL_nil | apply W_label | apply W_skip | apply W_exit | apply W_ret | apply popsD_done | exact popsD_stop) <;> try simp only [kks, simprocAttr])
    | (with_reducible apply pg <;> (intro hc; (try simp only [hcb, simprocAttr, ne_eq, forall_const] at hc); first | (exfalso; omega) | exact absurd trivial hc | skip))
    | (with_reducible apply hnx; clear hnx nx)
    | (with_reducible refine And.intro (by omega) ?_)
    | (with_reducible refine And.intro ?_ ?_)
    | (with_reducible refine pe (g1) ?_)
    | (with_reducible refine pe (g2) ?_)
    | (with_reducible refine pe (v1) ?_)
    | (clear hnx nx; with_reducible apply hnx; clear hnx nx)
    | (clear hnx nx; clear hnx nx; with_reducible apply hnx; clear hnx nx))
    all_goals first
      | exact absurd trivial hc
      | (exfalso
         omega)
      | exact (by kernel_rfl : Tryd.prog.underlying 5 = some (.int .u8))
      | skip
    refine hfin _ _ (Fin_ret2 rfl rfl (Sub_nil _) ?_)
    simp only [cob, simprocAttr]
    exact ⟨rfl, .inr ⟨rfl, rfl⟩⟩
theorem upd_c (G : Globs) (hG : G 0 = .iptr (KS.map pw) 0) (d sg : List UInt8) (hd : d.length = 16) (hsl : sg.length ≤ 4000) (u v w : List (List UInt8)) (hu : Small u) (hv : Small v) (hw : Small w) :
    PCalls Tryd.prog G 12 [pubP d 1, .list 1 ((bytesB (msgM u v) ++ bytesB sg).map pbyte), .list 1 (w.map pstr)] [] (fun res H => res = .tuple [.list 1 ((updF (decide ((verF d 1 (msgM u v) sg).2 = 0)) u v w).1.map pstr), pint .i64 (updF (decide ((verF d 1 (msgM u v) sg).2 = 0)) u v w).2] ∧ H = []) :=
  UpdR.frz (upd_r G hG d sg hd hsl u v w hu hv hw)
end Go.PM

namespace Go.PM
open Go.Proofs Go.RowKit
theorem pub_cells {w : World} {A : Nat → Prop} {d : List UInt8} {v : Value} (hd : d.length = 16) (h : Rep w A (pubP d 1) v) :
    ∃ xs : Array Value, v = .agg xs ∧ (∀ (j : Nat) (u : PV), (d.map pbyte)[j]? = some u → ∃ v, (xs.extract 0 16)[0 + j]? = some v ∧ Rep w A u v) ∧ ∃ v, xs[16]? = some v ∧ Rep w A (pint .i64 1) v := by
  obtain ⟨f, rfl, hf⟩ := h.agg_inv
  have hl : (d.map pbyte ++ [pint .i64 1]).length = 17 := by simp [hd]
  rw [hl]
  refine ⟨_, rfl, fun j u hu => ?_, f 16, by simp, hf 16 _ (by rw [List.getElem?_append_right (by simp [hd])]; simp [hd])⟩
  have hj : j < 16 := by
    have := (List.getElem?_eq_some_iff.1 hu).1
    rw [List.length_map, hd] at this
    exact this
  refine ⟨f j, ?_, hf j u (by rw [List.getElem?_append_left (by simp [hd, hj])]; exact hu)⟩
  rw [Nat.zero_add, Array.getElem?_extract, if_pos (by simp; omega), Nat.zero_add, List.getElem?_toArray, List.getElem?_map, List.getElem?_range (by omega)]
  rfl
theorem part_dig {w : World} (xs : Array Value) (hi : ∃ i, Tryd.prog.info? 37 = some i) (hc : Tryd.prog.cellsOf 37 = 16) : Sem.run Tryd.prog (part 37 xs 0) w = .ok (.agg (xs.extract 0 16)) w := by
  obtain ⟨i, hi⟩ := hi
  have h1 : Sem.run Tryd.prog (isAgg 37) w = .ok true w := by
    unfold isAgg
    simp [run_underlying Tryd.underlying37]
  simp [part, h1, run_sizeOf w hi, hc]
theorem pub_neq {w : World} {A : Nat → Prop} {ρ : Operand → Value} {o : Oper} {x y : Operand} {u : TypeId} (ho : o.op = .binOp .neq 39 x y u) {d e : List UInt8} (hd : d.length = 16) (he : e.length = 16)
    (hx : Rep w A (pubP d 1) (ρ x)) (hy : Rep w A (pubP e 1) (ρ y)) : Gives Tryd.prog w A ρ o (pbool (!decide (d = e))) := by
  obtain ⟨xs, ex, hx1, v1, hv1, hr1⟩ := pub_cells hd hx
  obtain ⟨ys, ey, hy1, v2, hv2, hr2⟩ := pub_cells he hy
  have hg : Tryd.prog.eqGuardType Tryd.prog.depth 39 = false := by kernel_rfl
  have s5 : scalarD Tryd.prog 5 = some (.int .u8) := by kernel_rfl
  have s3 : scalarD Tryd.prog 3 = some (.int .i64) := by kernel_rfl
  have i5 : ∃ i, Tryd.prog.info? 5 = some i := (scalarD_some s5).2.1.imp fun _ h => h.1
  have heq : ∀ w', Sem.run Tryd.prog (Op.equalIn 10000 39 (.agg xs) (.agg ys)) w' = .ok (decide (d = e)) w' := by
    intro w'
    rw [run_equalIn_agg w' 9999 39 _ _ (by simp [Program.fieldsOf, Tryd.underlying39]) (by kernel_rfl)]
    have hf : Tryd.prog.fieldsOf 39 = #[{ name := "Key", type := 37, offset := 0, embedded := false, tag := "", pkgPath := "", byteOffset := 0 }, { name := "Height", type := 3, offset := 16, embedded := false, tag := "", pkgPath := "", byteOffset := 16 }] := by simp [Program.fieldsOf, Tryd.underlying39]
    rw [hf]
    simp only [Op.eqFields]
    rw [if_pos (by decide), if_pos (by decide)]
    obtain ⟨i, hi⟩ := i5
    have hc : Tryd.prog.cellsOf 5 = 1 := by kernel_rfl
    have q := run_eqArray (P := Tryd.prog) s5 9997 w' (xs.extract 0 16) (ys.extract 0 16) 16 0 (d.map pbyte) (e.map pbyte) (decide (d = e)) hx1 hy1 (peqs_by16 16 d e hd he)
    rw [← List.range_eq_range'] at q
    have q2 : Sem.run Tryd.prog (Op.equalIn 9999 37 (.agg (xs.extract 0 16)) (.agg (ys.extract 0 16))) w' = .ok (decide (d = e)) w' := by
      rw [run_equalIn_array (w := w') 9998 _ _ Tryd.underlying37 hi, hc]
      exact q
    have q3 : Sem.run Tryd.prog (Op.equalIn 9999 3 v1 v2) w' = .ok true w' := run_eq1 s3 hr1 hr2 rfl 9998 w'
    have hi37 : ∃ i, Tryd.prog.info? 37 = some i := by
      cases h : Tryd.prog.info? 37 with
      | none =>
        have hc : Tryd.prog.cellsOf 37 = 16 := by kernel_rfl
        simp [Program.cellsOf, h] at hc
      | some i => exact ⟨i, rfl⟩
    simp only [Sem.run_bind, part_dig _ hi37 (by kernel_rfl), Result.andThen_ok, q2]
    by_cases hde : d = e
    · simp only [decide_eq_true hde]
      simp [run_part1 s3 hv1 w', run_part1 s3 hv2 w', q3]
    · simp [hde]
  refine ⟨_, .val _, fun w' _ => ?_⟩
  unfold execOp
  simp only [ho, ex, ey, Sem.run_bind, run_eqGuard_agg w' _ 39 x y _ _ hg, Result.andThen_ok]
  simp only [run_neq_struct, heq w', Result.andThen_ok, Sem.run_pure]
/-- The comparison, where its guard lets it run. -/
theorem WL_pub {G : Globs} {I : List Int} {l0 r : List Oper} {l : List (Nat × PV)} {H : Heap} {K : PState → Prop} {d e : List UInt8} {p : String} {af : Array Edge} (hd : d.length = 16) (he : e.length = 16) (b : Bool) (hb : (!decide (d = e)) = b)
    (hl0 : ((l0.map (·.dst))[12]?).join = some 122) (hf : (fr 134 l).getD 122 .junk = .val (.bool true)) (hx : (fr 134 l).getD 123 .junk = pubP d 1) (hy : (fr 134 l).getD 124 .junk = pubP e 1)
    (h : WL Tryd.prog G I l0 r ⟨fr 134 ((125, pbool b) :: l), H⟩ K) :
    WL Tryd.prog G I l0 ({ dst := some 125, op := .binOp .neq 39 (.tmp 123) (.tmp 124) 39, type := 4, pos := p, after := af, guard := some (12, true) } :: r) ⟨fr 134 l, H⟩ K := by
  subst hb
  intro E hE A a w hs Q hq
  have h2 := yielded_of (ops := l0.toArray) (g := 12) (s := 122) (b := true) hs (by simpa using hl0) hf
  unfold wpList
  rw [if_pos (by simp [Region.wanted, h2.1])]
  refine .inl (wp_of_gives (q := false) (p := fun _ => True) (K := fun σ' => WL Tryd.prog G I l0 r σ' K) hs ⟨pbool (!decide (d = e)), ?_, ?_⟩ fun σ' A' a' w' hk hs' _ => hk E hE A' a' w' hs' Q hq)
  · simp only [PState.put, fr_set]
    exact h
  · exact pub_neq rfl hd he (by have := hs.opnd (.tmp 123); simpa only [opnd, hx] using this) (by have := hs.opnd (.tmp 124); simpa only [opnd, hy] using this)
end Go.PM

namespace Go.PM
open Go.Proofs
attribute [local irreducible] W PCalls pcall pcallI WL
end Go.PM

namespace Go.PM
open Go.Proofs
attribute [local irreducible] W PCalls pcall pcallI WL
end Go.PM

namespace Go.PM
open Go.Proofs
attribute [local irreducible] W PCalls pcall pcallI WL
def seC (c : UInt8) (i : Nat) : List PV := List.replicate i (pbyte c) ++ List.replicate (32 - i) (pint .u8 0)
theorem seC_len {c : UInt8} {i : Nat} (h : i ≤ 32) : (seC c i).length = 32 := by simp [seC]; omega
theorem seC_zero (c : UInt8) : seC c 0 = List.replicate 32 (pint .u8 0) := rfl
theorem seC_full (c : UInt8) : seC c 32 = (List.replicate 32 c).map pbyte := by simp [seC]
theorem seC_put {c : UInt8} {i : Nat} (h : i < 32) : List.take i (seC c i) ++ [pbyte c] ++ List.drop (i + 1) (seC c i) = seC c (i + 1) := by
  obtain ⟨m, hm⟩ : ∃ m, 32 - i = m + 1 := ⟨32 - i - 1, by omega⟩
  have hl : (List.replicate i (pbyte c)).length = i := by simp
  rw [seC, seC, hm, show 32 - (i + 1) = m by omega, List.take_append_of_le_length (by omega), List.take_of_length_le (by omega), List.drop_append, hl, List.drop_of_length_le (by omega), show i + 1 - i = 1 by omega, List.replicate_succ, List.replicate_succ']
  simp
attribute [local irreducible] seC
set_option maxRecDepth 100000 in
set_option maxHeartbeats 8000000 in
theorem seed_c (G : Globs) (c : UInt8) : PCalls Tryd.prog G 10 [pbyte c] [] (fun res H => res = pstr (List.replicate 32 c) ∧ H = []) := by
  (refine PCalls_f Tryd.func10 rfl Tryd.ntmps10 Tryd.results10 (by simp) fun fin hfin => ?_; have hnm : True := trivial; simp only [ev, simprocAttr])
  repeat' (first
    | (with_reducible apply W_seq_k; intro nx hnx)
    | (with_reducible first | refine wr 29 ?_)
    | ((with_reducible first | (apply WL_op; intro nx hnx) | refine Ev_out ?_ | refine wc ?_ | (refine pf hnm fun nm hnm => ?_; try simp only [fmb] at hnm) | (refine pm hnm fun nm hnm => ?_; try simp only [fmb] at hnm)); try (simp (maxSteps := 2000000) (disch := omega) only [ev, ↓evp, PV.cells, PV.one, PV.mem?, Value.cells, simprocAttr, hnm, Tryd.tf0, Tryd.tf3, Tryd.tf4, Tryd.tf5, Tryd.tf9, Tryd.tf27]))
    | ((with_reducible first | apply W_block | apply W_scope | apply WL_nil | apply W_label | apply W_skip | apply W_exit | apply W_ret) <;> try simp only [kks, simprocAttr])
    | (with_reducible apply pg <;> (intro hc; (try simp only [hcb, simprocAttr, ne_eq, forall_const] at hc); first | (exfalso; omega) | exact absurd trivial hc | skip))
    | (with_reducible apply hnx; clear hnx nx)
    | (with_reducible refine And.intro (by omega) ?_)
    | (with_reducible refine And.intro ?_ ?_)
    | (clear hnx nx; with_reducible apply hnx; clear hnx nx)
    | (clear hnx nx; clear hnx nx; with_reducible apply hnx; clear hnx nx))
  obtain ⟨N, hN⟩ : ∃ N, N = nm := ⟨_, rfl⟩
  subst hN
  refine W_loop_k (fun z τ => ∃ i : Nat, i ≤ 32 ∧ z = 32 - i ∧ τ = ⟨fr 16 [(4, pint .i64 i), (3, .row N 1 32), (0, pbyte c)], [(N, ⟨5, true, 1, seC c i⟩)]⟩) 32
    ⟨fr 16 [(4, pint .i64 (0 : Nat)), (3, .row N 1 32), (0, pbyte c)], [(N, ⟨5, true, 1, seC c 0⟩)]⟩ (by
    rw [seC_zero]
    refine Wk_fr (by simp only [wkb, simprocAttr]) ?_
    exact Sub_refl (by simp [names])) ⟨0, by omega, by omega, rfl⟩ ?_
  rintro z τ ⟨i, hi, rfl, rfl⟩ lp hlp
  have hl := seC_len (c := c) hi
  by_cases hlt : i < 32
  · have hput := seC_put (c := c) hlt
    repeat' (first
    | (with_reducible apply W_seq_k; intro nx hnx)
    | (with_reducible first | refine wr 29 ?_)
    | ((with_reducible first | (apply WL_op; intro nx hnx) | refine Ev_out ?_ | refine wc ?_ | (refine pf hnm fun nm hnm => ?_; try simp only [fmb] at hnm) | (refine pm hnm fun nm hnm => ?_; try simp only [fmb] at hnm)); try (simp (maxSteps := 2000000) (disch := omega) only [ev, ↓evp, PV.cells, PV.one, PV.mem?, Value.cells, simprocAttr, hnm, Tryd.tf0, Tryd.tf3, Tryd.tf4, Tryd.tf5, Tryd.tf9, Tryd.tf27, hl, hput]))
    | ((with_reducible first | apply W_block | apply W_scope | apply WL_nil | apply W_label | apply W_skip | apply W_exit | apply W_ret) <;> try simp only [kks, simprocAttr])
    | (with_reducible apply pg <;> (intro hc; (try simp only [hcb, simprocAttr, ne_eq, forall_const] at hc); first | (exfalso; omega) | exact absurd trivial hc | skip))
    | (with_reducible apply hnx; clear hnx nx)
    | (with_reducible refine And.intro (by omega) ?_)
    | (with_reducible refine And.intro ?_ ?_)
    | (clear hnx nx; with_reducible apply hnx; clear hnx nx)
    | (clear hnx nx; clear hnx nx; with_reducible apply hnx; clear hnx nx))
    all_goals first
      | exact rfl
      | (exfalso
         omega)
      | (refine hlp _ (32 - (i + 1)) _ (by omega) ?_ ⟨i + 1, by omega, rfl, rfl⟩
         refine Wk_fr (by simp only [wkb, simprocAttr]) ?_
         exact Sub_refl (by simp [names]))
  · obtain rfl : i = 32 := by omega
    have hfull := seC_full c
    have hrl : (List.replicate 32 c).length = 32 := by simp
    rw [hfull] at hl ⊢
    generalize List.replicate 32 c = s at *
    have b1 := isByte_pb s
    have b2 := unb_pb s
    have tk : List.take 32 (s.map pbyte) = s.map pbyte := List.take_of_length_le (by omega)
    repeat' (first
    | (with_reducible apply W_seq_k; intro nx hnx)
    | (with_reducible first | refine wr 29 ?_)
    | ((with_reducible first | (apply WL_op; intro nx hnx) | refine Ev_out ?_ | refine wc ?_ | (refine pf hnm fun nm hnm => ?_; try simp only [fmb] at hnm) | (refine pm hnm fun nm hnm => ?_; try simp only [fmb] at hnm)); try (simp (maxSteps := 2000000) (disch := omega) only [ev, ↓evp, PV.cells, PV.one, PV.mem?, Value.cells, simprocAttr, hnm, Tryd.tf0, Tryd.tf3, Tryd.tf4, Tryd.tf5, Tryd.tf9, Tryd.tf27, hl, b1, b2, tk]))
    | ((with_reducible first | apply W_block | apply W_scope | apply WL_nil | apply W_label | apply W_skip | apply W_exit | apply W_ret) <;> try simp only [kks, simprocAttr])
    | (with_reducible apply pg <;> (intro hc; (try simp only [hcb, simprocAttr, ne_eq, forall_const] at hc); first | (exfalso; omega) | exact absurd trivial hc | skip))
    | (with_reducible apply hnx; clear hnx nx)
    | (with_reducible refine And.intro (by omega) ?_)
    | (with_reducible refine And.intro ?_ ?_)
    | (clear hnx nx; with_reducible apply hnx; clear hnx nx)
    | (clear hnx nx; clear hnx nx; with_reducible apply hnx; clear hnx nx))
    all_goals first
      | exact rfl
      | (exfalso
         omega)
      | (refine hfin _ _ (Fin_ret1 rfl (Sub_nil _) ?_); simp only [cob, simprocAttr]; first | trivial | exact ⟨rfl, by trivial⟩ | (simp; done) | (simp; omega))
end Go.PM

namespace Go.PM
open Go.Proofs
attribute [local irreducible] W PCalls pcall pcallI
theorem Chg.ext {c d : Chg} (h1 : c.at_ = d.at_) (h2 : c.drop = d.drop) (h3 : c.add = d.add) : c = d := by
  cases c
  cases d
  simp at h1 h2 h3
  simp [h1, h2, h3]
set_option maxRecDepth 100000 in
set_option maxHeartbeats 2000000 in
theorem same_c (G : Globs) (xs ys : List Chg) (hx : (xs.length : Int) ≤ 9223372036854775807) (ha : ∀ c ∈ xs, (c.add.length : Int) ≤ 9223372036854775807) :
    PCalls Tryd.prog G 19 [.list 3 (xs.map Chg.pv), .list 3 (ys.map Chg.pv)] [] (fun res H => res = pbool (decide (xs = ys)) ∧ H = []) := by
  (refine PCalls_f Tryd.func19 rfl Tryd.ntmps19 Tryd.results19 (by simp) fun fin hfin => ?_; have hnm : True := trivial; simp only [ev, simprocAttr])
  repeat' (first
    | (with_reducible apply W_seq_k; intro nx hnx)
    | (with_reducible first | refine wr 51 ?_ | refine wd (id := 6) 51 6 (.op 0 true (.op 1 true (.op 2 true (.op 3 true (.op 4 true (.op 5 true (.op 6 true (.op 7 true (.op 8 true (.op 9 true (.op 10 true (.op 11 true (.op 12 true (.op 13 true (.op 14 true (.op 15 true (.op 16 true (.op 17 true (.op 18 true (.op 19 true (.op 20 true (.op 21 true (.op 22 true (.op 23 true (.op 24 true (.op 25 true (.op 26 true (.op 27 true (.op 28 true (.op 29 true (.op 30 true (.op 31 true (.op 32 true (.op 33 true (.op 34 true (.op 35 false (.op 36 true (.op 37 true (.done))))))))))))))))))))))))))))))))))))))) (by kernel_rfl) ?_)
    | ((with_reducible first | (apply WL_op; intro nx hnx) | refine Ev_out ?_ | refine wc ?_ | (apply popsD_op; intro nx hnx) | (refine popsD_alt ?_ ?_; intro nx hnx)); try (simp (maxSteps := 2000000) (disch := omega) only [ev, ↓evp, PV.cells, PV.one, PV.mem?, Value.cells, simprocAttr, hnm, Tryd.tf0, Tryd.tf1, Tryd.tf2, Tryd.tf3, Tryd.tf4, Tryd.tf9, Tryd.tf24, Tryd.tf48, Tryd.tf52, Tryd.call13]))
    | ((with_reducible first | apply W_block | apply W_scope | apply WL_nil | apply W_label | apply W_skip | apply W_exit | apply W_ret | apply popsD_done | exact popsD_stop) <;> try simp only [kks, simprocAttr])
    | (with_reducible apply pg <;> (intro hc; (try simp only [hcb, simprocAttr, ne_eq, forall_const] at hc); first | (exfalso; omega) | exact absurd trivial hc | skip))
    | (with_reducible apply hnx; clear hnx nx)
    | (with_reducible refine And.intro (by omega) ?_)
    | (with_reducible refine And.intro ?_ ?_)
    | (clear hnx nx; with_reducible apply hnx; clear hnx nx)
    | (clear hnx nx; clear hnx nx; with_reducible apply hnx; clear hnx nx))
  · refine hfin _ _ (Fin_ret1 rfl (Sub_nil _) ?_); simp only [cob, simprocAttr]
    simp
    intro h
    exact hc (by rw [h])
  · refine W_loop_k (fun n τ => ∃ i : Nat, i ≤ xs.length ∧ n = xs.length - i ∧ xs.take i = ys.take i ∧ τ = ⟨fr 55 [(0, .list 3 (xs.map Chg.pv)), (1, .list 3 (ys.map Chg.pv)), (5, pint .i64 i)], []⟩) xs.length ⟨fr 55 [(0, .list 3 (xs.map Chg.pv)), (1, .list 3 (ys.map Chg.pv)), (5, pint .i64 (0 : Nat))], []⟩ (by exact Wk_fr (by simp only [wkb, simprocAttr]) (Sub_nil _)) ⟨0, by omega, by omega, by simp, rfl⟩ ?_
    rintro n τ ⟨i, hi, rfl, he, rfl⟩ lp hlp
    skip
    repeat' (first
    | (with_reducible apply W_seq_k; intro nx hnx)
    | (with_reducible first | refine wr 51 ?_ | refine wd (id := 6) 51 6 (.op 0 true (.op 1 true (.op 2 true (.op 3 true (.op 4 true (.op 5 true (.op 6 true (.op 7 true (.op 8 true (.op 9 true (.op 10 true (.op 11 true (.op 12 true (.op 13 true (.op 14 true (.op 15 true (.op 16 true (.op 17 true (.op 18 true (.op 19 true (.op 20 true (.op 21 true (.op 22 true (.op 23 true (.op 24 true (.op 25 true (.op 26 true (.op 27 true (.op 28 true (.op 29 true (.op 30 true (.op 31 true (.op 32 true (.op 33 true (.op 34 true (.op 35 false (.op 36 true (.op 37 true (.done))))))))))))))))))))))))))))))))))))))) (by kernel_rfl) ?_)
    | ((with_reducible first | (apply WL_op; intro nx hnx) | refine Ev_out ?_ | refine wc ?_ | (apply popsD_op; intro nx hnx) | (refine popsD_alt ?_ ?_; intro nx hnx)); try (simp (maxSteps := 2000000) (disch := omega) only [ev, ↓evp, PV.cells, PV.one, PV.mem?, Value.cells, simprocAttr, hnm, Tryd.tf0, Tryd.tf1, Tryd.tf2, Tryd.tf3, Tryd.tf4, Tryd.tf9, Tryd.tf24, Tryd.tf48, Tryd.tf52, Tryd.call13]))
    | ((with_reducible first | apply W_block | apply W_scope | apply WL_nil | apply W_label | apply W_skip | apply W_exit | apply W_ret | apply popsD_done | exact popsD_stop) <;> try simp only [kks, simprocAttr])
    | (with_reducible apply pg <;> (intro hc; (try simp only [hcb, simprocAttr, ne_eq, forall_const] at hc); first | (exfalso; omega) | exact absurd trivial hc | skip))
    | (with_reducible apply hnx; clear hnx nx)
    | (with_reducible refine And.intro (by omega) ?_)
    | (with_reducible refine And.intro ?_ ?_)
    | (clear hnx nx; with_reducible apply hnx; clear hnx nx)
    | (clear hnx nx; clear hnx nx; with_reducible apply hnx; clear hnx nx))
    · refine pcall_k (sameLines_c G _ _ (ha _ (List.getElem_mem _))) ?_
      rintro _ _ ⟨rfl, rfl⟩ -
      simp (maxSteps := 2000000) (disch := omega) only [ev, ↓evp, PV.cells, PV.one, PV.mem?, Value.cells, simprocAttr, hnm, Tryd.tf0, Tryd.tf1, Tryd.tf2, Tryd.tf3, Tryd.tf4, Tryd.tf9, Tryd.tf24, Tryd.tf48, Tryd.tf52, Tryd.call13]
      repeat' (first
    | (with_reducible apply W_seq_k; intro nx hnx)
    | (with_reducible first | refine wr 51 ?_ | refine wd (id := 6) 51 6 (.op 0 true (.op 1 true (.op 2 true (.op 3 true (.op 4 true (.op 5 true (.op 6 true (.op 7 true (.op 8 true (.op 9 true (.op 10 true (.op 11 true (.op 12 true (.op 13 true (.op 14 true (.op 15 true (.op 16 true (.op 17 true (.op 18 true (.op 19 true (.op 20 true (.op 21 true (.op 22 true (.op 23 true (.op 24 true (.op 25 true (.op 26 true (.op 27 true (.op 28 true (.op 29 true (.op 30 true (.op 31 true (.op 32 true (.op 33 true (.op 34 true (.op 35 false (.op 36 true (.op 37 true (.done))))))))))))))))))))))))))))))))))))))) (by kernel_rfl) ?_)
    | ((with_reducible first | (apply WL_op; intro nx hnx) | refine Ev_out ?_ | refine wc ?_ | (apply popsD_op; intro nx hnx) | (refine popsD_alt ?_ ?_; intro nx hnx)); try (simp (maxSteps := 2000000) (disch := omega) only [ev, ↓evp, PV.cells, PV.one, PV.mem?, Value.cells, simprocAttr, hnm, Tryd.tf0, Tryd.tf1, Tryd.tf2, Tryd.tf3, Tryd.tf4, Tryd.tf9, Tryd.tf24, Tryd.tf48, Tryd.tf52, Tryd.call13]))
    | ((with_reducible first | apply W_block | apply W_scope | apply WL_nil | apply W_label | apply W_skip | apply W_exit | apply W_ret | apply popsD_done | exact popsD_stop) <;> try simp only [kks, simprocAttr])
    | (with_reducible apply pg <;> (intro hc; (try simp only [hcb, simprocAttr, ne_eq, forall_const] at hc); first | (exfalso; omega) | exact absurd trivial hc | skip))
    | (with_reducible apply hnx; clear hnx nx)
    | (with_reducible refine And.intro (by omega) ?_)
    | (with_reducible refine And.intro ?_ ?_)
    | (clear hnx nx; with_reducible apply hnx; clear hnx nx)
    | (clear hnx nx; clear hnx nx; with_reducible apply hnx; clear hnx nx))
      · refine hfin _ _ (Fin_ret1 rfl (Sub_nil _) ?_); simp only [cob, simprocAttr]
        refine ⟨?_, trivial⟩
        simp
        intro h
        subst h
        exact hc rfl
      · refine hlp _ (xs.length - (i+1)) _ (by omega) ?_ ⟨i+1, by omega, rfl, ?_, rfl⟩
        · exact Wk_fr (by simp only [wkb, simprocAttr]) (Sub_nil _)
        · rw [List.take_add_one, List.take_add_one, he]
          have h1 : i < xs.length := by omega
          have h2 : i < ys.length := by omega
          rw [List.getElem?_eq_getElem h1, List.getElem?_eq_getElem h2, show xs[i] = ys[i] from Chg.ext ‹_› ‹_› hc]
    all_goals
      refine hfin _ _ (Fin_ret1 rfl (Sub_nil _) ?_); simp only [cob, simprocAttr]
      refine ⟨?_, trivial⟩
    · simp
      intro h
      subst h
      exact hc rfl
    · simp
      intro h
      subst h
      exact hc rfl
    · simp
      have h1 : xs.length ≤ i := by omega
      have h2 : ys.length ≤ i := by omega
      rw [List.take_of_length_le h1, List.take_of_length_le h2] at he
      exact he
end Go.PM

namespace Go.PM
open Go.Proofs
attribute [local irreducible] W PCalls pcall pcallI WL
set_option maxRecDepth 100000 in
set_option maxHeartbeats 8000000 in
theorem lives_c (G : Globs) : PCalls Tryd.prog G 5 [] [] (fun res H => res = pbool true ∧ H = []) := by
  (refine PCalls_f Tryd.func5 rfl Tryd.ntmps5 Tryd.results5 (by simp) fun fin hfin => ?_; have hnm : True := trivial; simp only [ev, simprocAttr])
  repeat' (first
    | (with_reducible apply W_seq_k; intro nx hnx)
    | (with_reducible first | refine wr 223 ?_)
    | (with_reducible refine WL_born (by simp) rfl (by simp) ?_; simp only [elemsOf, nl, bir, simprocAttr])
    | ((with_reducible first | (apply WL_op; intro nx hnx) | refine Ev_out ?_ | refine wc ?_ | (refine pf hnm fun nm hnm => ?_; try simp only [fmb] at hnm) | (refine pm hnm fun nm hnm => ?_; try simp only [fmb] at hnm)); try (simp (maxSteps := 2000000) (disch := omega) only [ev, ↓evp, PV.cells, PV.one, PV.mem?, Value.cells, simprocAttr, hnm, Tryd.tf0, Tryd.tf1, Tryd.tf2, Tryd.tf3, Tryd.tf4, Tryd.tf9, Tryd.tf24, Tryd.tf28, Tryd.tf42, Tryd.tf48, Tryd.tf52, Tryd.call13, Tryd.call16, Tryd.call17, Tryd.call18, Tryd.call19]))
    | ((with_reducible first | apply W_block | apply W_scope | apply WL_nil | apply W_label | apply W_skip | apply W_exit | apply W_ret) <;> try simp only [kks, simprocAttr])
    | (with_reducible apply pg <;> (intro hc; (try simp only [hcb, simprocAttr, ne_eq, forall_const] at hc); first | (exfalso; omega) | exact absurd trivial hc | skip))
    | (with_reducible apply hnx; clear hnx nx)
    | (with_reducible refine And.intro (by omega) ?_)
    | (with_reducible refine And.intro ?_ ?_)
    | (clear hnx nx; with_reducible apply hnx; clear hnx nx)
    | (clear hnx nx; clear hnx nx; with_reducible apply hnx; clear hnx nx))
  refine pcall_k (diff_c G [[97], [98], [99]] [[97], [120], [99], [100]] (by decide) (by decide)) ?_
  rintro _ _ ⟨rfl, rfl⟩ -
  (simp only [PState.put, fr_set, List.nil_append, List.append_nil]; try simp (maxSteps := 2000000) (disch := omega) only [ev, ↓evp, PV.cells, PV.one, PV.mem?, Value.cells, simprocAttr, hnm, Tryd.tf0, Tryd.tf1, Tryd.tf2, Tryd.tf3, Tryd.tf4, Tryd.tf9, Tryd.tf24, Tryd.tf28, Tryd.tf42, Tryd.tf48, Tryd.tf52, Tryd.call13, Tryd.call16, Tryd.call17, Tryd.call18, Tryd.call19])
  repeat' (first
    | (with_reducible apply W_seq_k; intro nx hnx)
    | (with_reducible first | refine wr 223 ?_)
    | (with_reducible refine WL_born (by simp) rfl (by simp) ?_; simp only [elemsOf, nl, bir, simprocAttr])
    | ((with_reducible first | (apply WL_op; intro nx hnx) | refine Ev_out ?_ | refine wc ?_ | (refine pf hnm fun nm hnm => ?_; try simp only [fmb] at hnm) | (refine pm hnm fun nm hnm => ?_; try simp only [fmb] at hnm)); try (simp (maxSteps := 2000000) (disch := omega) only [ev, ↓evp, PV.cells, PV.one, PV.mem?, Value.cells, simprocAttr, hnm, Tryd.tf0, Tryd.tf1, Tryd.tf2, Tryd.tf3, Tryd.tf4, Tryd.tf9, Tryd.tf24, Tryd.tf28, Tryd.tf42, Tryd.tf48, Tryd.tf52, Tryd.call13, Tryd.call16, Tryd.call17, Tryd.call18, Tryd.call19]))
    | ((with_reducible first | apply W_block | apply W_scope | apply WL_nil | apply W_label | apply W_skip | apply W_exit | apply W_ret) <;> try simp only [kks, simprocAttr])
    | (with_reducible apply pg <;> (intro hc; (try simp only [hcb, simprocAttr, ne_eq, forall_const] at hc); first | (exfalso; omega) | exact absurd trivial hc | skip))
    | (with_reducible apply hnx; clear hnx nx)
    | (with_reducible refine And.intro (by omega) ?_)
    | (with_reducible refine And.intro ?_ ?_)
    | (clear hnx nx; with_reducible apply hnx; clear hnx nx)
    | (clear hnx nx; clear hnx nx; with_reducible apply hnx; clear hnx nx))
  refine pcall_k (apply_c G [[97], [98], [99]] (diffL [[97], [98], [99]] [[97], [120], [99], [100]]) (by decide) (by decide) (by decide)) ?_
  rintro _ _ ⟨rfl, rfl⟩ -
  (simp only [PState.put, fr_set, List.nil_append, List.append_nil]; try simp (maxSteps := 2000000) (disch := omega) only [ev, ↓evp, PV.cells, PV.one, PV.mem?, Value.cells, simprocAttr, hnm, Tryd.tf0, Tryd.tf1, Tryd.tf2, Tryd.tf3, Tryd.tf4, Tryd.tf9, Tryd.tf24, Tryd.tf28, Tryd.tf42, Tryd.tf48, Tryd.tf52, Tryd.call13, Tryd.call16, Tryd.call17, Tryd.call18, Tryd.call19])
  repeat' (first
    | (with_reducible apply W_seq_k; intro nx hnx)
    | (with_reducible first | refine wr 223 ?_)
    | (with_reducible refine WL_born (by simp) rfl (by simp) ?_; simp only [elemsOf, nl, bir, simprocAttr])
    | ((with_reducible first | (apply WL_op; intro nx hnx) | refine Ev_out ?_ | refine wc ?_ | (refine pf hnm fun nm hnm => ?_; try simp only [fmb] at hnm) | (refine pm hnm fun nm hnm => ?_; try simp only [fmb] at hnm)); try (simp (maxSteps := 2000000) (disch := omega) only [ev, ↓evp, PV.cells, PV.one, PV.mem?, Value.cells, simprocAttr, hnm, Tryd.tf0, Tryd.tf1, Tryd.tf2, Tryd.tf3, Tryd.tf4, Tryd.tf9, Tryd.tf24, Tryd.tf28, Tryd.tf42, Tryd.tf48, Tryd.tf52, Tryd.call13, Tryd.call16, Tryd.call17, Tryd.call18, Tryd.call19]))
    | ((with_reducible first | apply W_block | apply W_scope | apply WL_nil | apply W_label | apply W_skip | apply W_exit | apply W_ret) <;> try simp only [kks, simprocAttr])
    | (with_reducible apply pg <;> (intro hc; (try simp only [hcb, simprocAttr, ne_eq, forall_const] at hc); first | (exfalso; omega) | exact absurd trivial hc | skip))
    | (with_reducible apply hnx; clear hnx nx)
    | (with_reducible refine And.intro (by omega) ?_)
    | (with_reducible refine And.intro ?_ ?_)
    | (clear hnx nx; with_reducible apply hnx; clear hnx nx)
    | (clear hnx nx; clear hnx nx; with_reducible apply hnx; clear hnx nx))
  refine pcall_k (apply_c G [[97]] [⟨1, 1, []⟩] (by decide) (by decide) (by decide)) ?_
  rintro _ _ ⟨rfl, rfl⟩ -
  (simp only [PState.put, fr_set, List.nil_append, List.append_nil]; try simp (maxSteps := 2000000) (disch := omega) only [ev, ↓evp, PV.cells, PV.one, PV.mem?, Value.cells, simprocAttr, hnm, Tryd.tf0, Tryd.tf1, Tryd.tf2, Tryd.tf3, Tryd.tf4, Tryd.tf9, Tryd.tf24, Tryd.tf28, Tryd.tf42, Tryd.tf48, Tryd.tf52, Tryd.call13, Tryd.call16, Tryd.call17, Tryd.call18, Tryd.call19])
  repeat' (first
    | (with_reducible apply W_seq_k; intro nx hnx)
    | (with_reducible first | refine wr 223 ?_)
    | (with_reducible refine WL_born (by simp) rfl (by simp) ?_; simp only [elemsOf, nl, bir, simprocAttr])
    | ((with_reducible first | (apply WL_op; intro nx hnx) | refine Ev_out ?_ | refine wc ?_ | (refine pf hnm fun nm hnm => ?_; try simp only [fmb] at hnm) | (refine pm hnm fun nm hnm => ?_; try simp only [fmb] at hnm)); try (simp (maxSteps := 2000000) (disch := omega) only [ev, ↓evp, PV.cells, PV.one, PV.mem?, Value.cells, simprocAttr, hnm, Tryd.tf0, Tryd.tf1, Tryd.tf2, Tryd.tf3, Tryd.tf4, Tryd.tf9, Tryd.tf24, Tryd.tf28, Tryd.tf42, Tryd.tf48, Tryd.tf52, Tryd.call13, Tryd.call16, Tryd.call17, Tryd.call18, Tryd.call19]))
    | ((with_reducible first | apply W_block | apply W_scope | apply WL_nil | apply W_label | apply W_skip | apply W_exit | apply W_ret) <;> try simp only [kks, simprocAttr])
    | (with_reducible apply pg <;> (intro hc; (try simp only [hcb, simprocAttr, ne_eq, forall_const] at hc); first | (exfalso; omega) | exact absurd trivial hc | skip))
    | (with_reducible apply hnx; clear hnx nx)
    | (with_reducible refine And.intro (by omega) ?_)
    | (with_reducible refine And.intro ?_ ?_)
    | (clear hnx nx; with_reducible apply hnx; clear hnx nx)
    | (clear hnx nx; clear hnx nx; with_reducible apply hnx; clear hnx nx))
  refine pcall_k (diff_c G [[97], [98]] [[98], [97]] (by decide) (by decide)) ?_
  rintro _ _ ⟨rfl, rfl⟩ -
  (simp only [PState.put, fr_set, List.nil_append, List.append_nil]; try simp (maxSteps := 2000000) (disch := omega) only [ev, ↓evp, PV.cells, PV.one, PV.mem?, Value.cells, simprocAttr, hnm, Tryd.tf0, Tryd.tf1, Tryd.tf2, Tryd.tf3, Tryd.tf4, Tryd.tf9, Tryd.tf24, Tryd.tf28, Tryd.tf42, Tryd.tf48, Tryd.tf52, Tryd.call13, Tryd.call16, Tryd.call17, Tryd.call18, Tryd.call19])
  rw [show applyE [[97], [98], [99]] (diffL [[97], [98], [99]] [[97], [120], [99], [100]]) = 0 by decide, show applyE [[97]] [⟨1, 1, []⟩] = 1 by decide]
  repeat' (first
    | (with_reducible apply W_seq_k; intro nx hnx)
    | (with_reducible first | refine wr 223 ?_)
    | (with_reducible refine WL_born (by simp) rfl (by simp) ?_; simp only [elemsOf, nl, bir, simprocAttr])
    | ((with_reducible first | (apply WL_op; intro nx hnx) | refine Ev_out ?_ | refine wc ?_ | (refine pf hnm fun nm hnm => ?_; try simp only [fmb] at hnm) | (refine pm hnm fun nm hnm => ?_; try simp only [fmb] at hnm)); try (simp (maxSteps := 2000000) (disch := omega) only [ev, ↓evp, PV.cells, PV.one, PV.mem?, Value.cells, simprocAttr, hnm, Tryd.tf0, Tryd.tf1, Tryd.tf2, Tryd.tf3, Tryd.tf4, Tryd.tf9, Tryd.tf24, Tryd.tf28, Tryd.tf42, Tryd.tf48, Tryd.tf52, Tryd.call13, Tryd.call16, Tryd.call17, Tryd.call18, Tryd.call19]))
    | ((with_reducible first | apply W_block | apply W_scope | apply WL_nil | apply W_label | apply W_skip | apply W_exit | apply W_ret) <;> try simp only [kks, simprocAttr])
    | (with_reducible apply pg <;> (intro hc; (try simp only [hcb, simprocAttr, ne_eq, forall_const] at hc); first | (exfalso; omega) | exact absurd trivial hc | skip))
    | (with_reducible apply hnx; clear hnx nx)
    | (with_reducible refine And.intro (by omega) ?_)
    | (with_reducible refine And.intro ?_ ?_)
    | (clear hnx nx; with_reducible apply hnx; clear hnx nx)
    | (clear hnx nx; clear hnx nx; with_reducible apply hnx; clear hnx nx))
  refine pcall_k (sameLines_c G (applyL [[97], [98], [99]] (diffL [[97], [98], [99]] [[97], [120], [99], [100]])) [[97], [120], [99], [100]] (by decide)) ?_
  rintro _ _ ⟨rfl, rfl⟩ -
  rw [show decide (applyL [[97], [98], [99]] (diffL [[97], [98], [99]] [[97], [120], [99], [100]]) = [[97], [120], [99], [100]]) = true by decide]
  (simp only [PState.put, fr_set, List.nil_append, List.append_nil]; try simp (maxSteps := 2000000) (disch := omega) only [ev, ↓evp, PV.cells, PV.one, PV.mem?, Value.cells, simprocAttr, hnm, Tryd.tf0, Tryd.tf1, Tryd.tf2, Tryd.tf3, Tryd.tf4, Tryd.tf9, Tryd.tf24, Tryd.tf28, Tryd.tf42, Tryd.tf48, Tryd.tf52, Tryd.call13, Tryd.call16, Tryd.call17, Tryd.call18, Tryd.call19])
  repeat' (first
    | (with_reducible apply W_seq_k; intro nx hnx)
    | (with_reducible first | refine wr 223 ?_)
    | (with_reducible refine WL_born (by simp) rfl (by simp) ?_; simp only [elemsOf, nl, bir, simprocAttr])
    | ((with_reducible first | (apply WL_op; intro nx hnx) | refine Ev_out ?_ | refine wc ?_ | (refine pf hnm fun nm hnm => ?_; try simp only [fmb] at hnm) | (refine pm hnm fun nm hnm => ?_; try simp only [fmb] at hnm)); try (simp (maxSteps := 2000000) (disch := omega) only [ev, ↓evp, PV.cells, PV.one, PV.mem?, Value.cells, simprocAttr, hnm, Tryd.tf0, Tryd.tf1, Tryd.tf2, Tryd.tf3, Tryd.tf4, Tryd.tf9, Tryd.tf24, Tryd.tf28, Tryd.tf42, Tryd.tf48, Tryd.tf52, Tryd.call13, Tryd.call16, Tryd.call17, Tryd.call18, Tryd.call19]))
    | ((with_reducible first | apply W_block | apply W_scope | apply WL_nil | apply W_label | apply W_skip | apply W_exit | apply W_ret) <;> try simp only [kks, simprocAttr])
    | (with_reducible apply pg <;> (intro hc; (try simp only [hcb, simprocAttr, ne_eq, forall_const] at hc); first | (exfalso; omega) | exact absurd trivial hc | skip))
    | (with_reducible apply hnx; clear hnx nx)
    | (with_reducible refine And.intro (by omega) ?_)
    | (with_reducible refine And.intro ?_ ?_)
    | (clear hnx nx; with_reducible apply hnx; clear hnx nx)
    | (clear hnx nx; clear hnx nx; with_reducible apply hnx; clear hnx nx))
  refine pcall_k (size_c G (diffL [[97], [98], [99]] [[97], [120], [99], [100]]) (by decide)) ?_
  rintro _ _ ⟨rfl, rfl⟩ -
  rw [show IntKind.i64.wrap (sizeL (diffL [[97], [98], [99]] [[97], [120], [99], [100]])) = 3 by decide]
  (simp only [PState.put, fr_set, List.nil_append, List.append_nil]; try simp (maxSteps := 2000000) (disch := omega) only [ev, ↓evp, PV.cells, PV.one, PV.mem?, Value.cells, simprocAttr, hnm, Tryd.tf0, Tryd.tf1, Tryd.tf2, Tryd.tf3, Tryd.tf4, Tryd.tf9, Tryd.tf24, Tryd.tf28, Tryd.tf42, Tryd.tf48, Tryd.tf52, Tryd.call13, Tryd.call16, Tryd.call17, Tryd.call18, Tryd.call19])
  repeat' (first
    | (with_reducible apply W_seq_k; intro nx hnx)
    | (with_reducible first | refine wr 223 ?_)
    | (with_reducible refine WL_born (by simp) rfl (by simp) ?_; simp only [elemsOf, nl, bir, simprocAttr])
    | ((with_reducible first | (apply WL_op; intro nx hnx) | refine Ev_out ?_ | refine wc ?_ | (refine pf hnm fun nm hnm => ?_; try simp only [fmb] at hnm) | (refine pm hnm fun nm hnm => ?_; try simp only [fmb] at hnm)); try (simp (maxSteps := 2000000) (disch := omega) only [ev, ↓evp, PV.cells, PV.one, PV.mem?, Value.cells, simprocAttr, hnm, Tryd.tf0, Tryd.tf1, Tryd.tf2, Tryd.tf3, Tryd.tf4, Tryd.tf9, Tryd.tf24, Tryd.tf28, Tryd.tf42, Tryd.tf48, Tryd.tf52, Tryd.call13, Tryd.call16, Tryd.call17, Tryd.call18, Tryd.call19]))
    | ((with_reducible first | apply W_block | apply W_scope | apply WL_nil | apply W_label | apply W_skip | apply W_exit | apply W_ret) <;> try simp only [kks, simprocAttr])
    | (with_reducible apply pg <;> (intro hc; (try simp only [hcb, simprocAttr, ne_eq, forall_const] at hc); first | (exfalso; omega) | exact absurd trivial hc | skip))
    | (with_reducible apply hnx; clear hnx nx)
    | (with_reducible refine And.intro (by omega) ?_)
    | (with_reducible refine And.intro ?_ ?_)
    | (clear hnx nx; with_reducible apply hnx; clear hnx nx)
    | (clear hnx nx; clear hnx nx; with_reducible apply hnx; clear hnx nx))
  refine pcall_k (same_c G (diffL [[97], [98], [99]] [[97], [120], [99], [100]]) [⟨1, 1, [[120]]⟩, ⟨3, 0, [[100]]⟩] (by decide) (by decide)) ?_
  rintro _ _ ⟨rfl, rfl⟩ -
  rw [show decide (diffL [[97], [98], [99]] [[97], [120], [99], [100]] = [⟨1, 1, [[120]]⟩, ⟨3, 0, [[100]]⟩]) = true by decide]
  (simp only [PState.put, fr_set, List.nil_append, List.append_nil]; try simp (maxSteps := 2000000) (disch := omega) only [ev, ↓evp, PV.cells, PV.one, PV.mem?, Value.cells, simprocAttr, hnm, Tryd.tf0, Tryd.tf1, Tryd.tf2, Tryd.tf3, Tryd.tf4, Tryd.tf9, Tryd.tf24, Tryd.tf28, Tryd.tf42, Tryd.tf48, Tryd.tf52, Tryd.call13, Tryd.call16, Tryd.call17, Tryd.call18, Tryd.call19])
  repeat' (first
    | (with_reducible apply W_seq_k; intro nx hnx)
    | (with_reducible first | refine wr 223 ?_)
    | (with_reducible refine WL_born (by simp) rfl (by simp) ?_; simp only [elemsOf, nl, bir, simprocAttr])
    | ((with_reducible first | (apply WL_op; intro nx hnx) | refine Ev_out ?_ | refine wc ?_ | (refine pf hnm fun nm hnm => ?_; try simp only [fmb] at hnm) | (refine pm hnm fun nm hnm => ?_; try simp only [fmb] at hnm)); try (simp (maxSteps := 2000000) (disch := omega) only [ev, ↓evp, PV.cells, PV.one, PV.mem?, Value.cells, simprocAttr, hnm, Tryd.tf0, Tryd.tf1, Tryd.tf2, Tryd.tf3, Tryd.tf4, Tryd.tf9, Tryd.tf24, Tryd.tf28, Tryd.tf42, Tryd.tf48, Tryd.tf52, Tryd.call13, Tryd.call16, Tryd.call17, Tryd.call18, Tryd.call19]))
    | ((with_reducible first | apply W_block | apply W_scope | apply WL_nil | apply W_label | apply W_skip | apply W_exit | apply W_ret) <;> try simp only [kks, simprocAttr])
    | (with_reducible apply pg <;> (intro hc; (try simp only [hcb, simprocAttr, ne_eq, forall_const] at hc); first | (exfalso; omega) | exact absurd trivial hc | skip))
    | (with_reducible apply hnx; clear hnx nx)
    | (with_reducible refine And.intro (by omega) ?_)
    | (with_reducible refine And.intro ?_ ?_)
    | (clear hnx nx; with_reducible apply hnx; clear hnx nx)
    | (clear hnx nx; clear hnx nx; with_reducible apply hnx; clear hnx nx))
  refine pcall_k (same_c G (diffL [[97], [98]] [[98], [97]]) [⟨0, 1, []⟩, ⟨2, 0, [[97]]⟩] (by decide) (by decide)) ?_
  rintro _ _ ⟨rfl, rfl⟩ -
  rw [show decide (diffL [[97], [98]] [[98], [97]] = [⟨0, 1, []⟩, ⟨2, 0, [[97]]⟩]) = true by decide]
  (simp only [PState.put, fr_set, List.nil_append, List.append_nil]; try simp (maxSteps := 2000000) (disch := omega) only [ev, ↓evp, PV.cells, PV.one, PV.mem?, Value.cells, simprocAttr, hnm, Tryd.tf0, Tryd.tf1, Tryd.tf2, Tryd.tf3, Tryd.tf4, Tryd.tf9, Tryd.tf24, Tryd.tf28, Tryd.tf42, Tryd.tf48, Tryd.tf52, Tryd.call13, Tryd.call16, Tryd.call17, Tryd.call18, Tryd.call19])
  repeat' (first
    | (with_reducible apply W_seq_k; intro nx hnx)
    | (with_reducible first | refine wr 223 ?_)
    | (with_reducible refine WL_born (by simp) rfl (by simp) ?_; simp only [elemsOf, nl, bir, simprocAttr])
    | ((with_reducible first | (apply WL_op; intro nx hnx) | refine Ev_out ?_ | refine wc ?_ | (refine pf hnm fun nm hnm => ?_; try simp only [fmb] at hnm) | (refine pm hnm fun nm hnm => ?_; try simp only [fmb] at hnm)); try (simp (maxSteps := 2000000) (disch := omega) only [ev, ↓evp, PV.cells, PV.one, PV.mem?, Value.cells, simprocAttr, hnm, Tryd.tf0, Tryd.tf1, Tryd.tf2, Tryd.tf3, Tryd.tf4, Tryd.tf9, Tryd.tf24, Tryd.tf28, Tryd.tf42, Tryd.tf48, Tryd.tf52, Tryd.call13, Tryd.call16, Tryd.call17, Tryd.call18, Tryd.call19]))
    | ((with_reducible first | apply W_block | apply W_scope | apply WL_nil | apply W_label | apply W_skip | apply W_exit | apply W_ret) <;> try simp only [kks, simprocAttr])
    | (with_reducible apply pg <;> (intro hc; (try simp only [hcb, simprocAttr, ne_eq, forall_const] at hc); first | (exfalso; omega) | exact absurd trivial hc | skip))
    | (with_reducible apply hnx; clear hnx nx)
    | (with_reducible refine And.intro (by omega) ?_)
    | (with_reducible refine And.intro ?_ ?_)
    | (clear hnx nx; with_reducible apply hnx; clear hnx nx)
    | (clear hnx nx; clear hnx nx; with_reducible apply hnx; clear hnx nx))
  · refine hfin _ _ (Fin_ret1 rfl (Sub_nil _) ?_); simp only [cob, simprocAttr]
    first | exact ⟨rfl, trivial⟩ | exact ⟨trivial, trivial⟩ | simp
  all_goals exact absurd trivial hc
end Go.PM

namespace Go.PM
open Go.Proofs
attribute [local irreducible] W PCalls pcall pcallI WL
theorem updF_same (u v : List (List UInt8)) : updF true u v u = (v, 0) := by
  have h1 : applyE u (diffL u v) = 0 := by rw [applyE, if_pos (diffL_valid u v)]
  have h2 : applyL u (diffL u v) = v := by rw [applyL, if_pos (diffL_valid u v), diffL_apply]
  rw [updF, h1, h2]
  simp
theorem updF_bad (u v w : List (List UInt8)) : updF false u v w = ([], 10) := by simp [updF]
theorem updF_19 {u v w : List (List UInt8)} (h : dgL w ≠ dgL u) : (updF true u v w).2 = 19 := by simp [updF, h]
theorem updF_n19 {u v w : List (List UInt8)} (h : dgL w = dgL u) : (updF true u v w).2 ≠ 19 := by
  rw [updF, if_neg (by simp), if_neg (by simpa using h)]
  split
  · simp
  · split <;> simp
set_option maxRecDepth 100000 in
set_option maxHeartbeats 8000000 in
theorem law4_c (G : Globs) (h0 : G 0 = .iptr (KS.map pw) 0) (l m k : List Int) (c d : UInt8)
    (hl : (l.length : Int) ≤ 9223372036854775807) (hlb : ∀ x ∈ l, -9223372036854775808 ≤ x ∧ x ≤ 9223372036854775807) (hm : (m.length : Int) ≤ 9223372036854775807) (hmb : ∀ x ∈ m, -9223372036854775808 ≤ x ∧ x ≤ 9223372036854775807)
    (hk : (k.length : Int) ≤ 9223372036854775807) (hkb : ∀ x ∈ k, -9223372036854775808 ≤ x ∧ x ≤ 9223372036854775807) :
    PCalls Tryd.prog G 4 [.list 1 (l.map (pint .i64)), .list 1 (m.map (pint .i64)), .list 1 (k.map (pint .i64)), pbyte c, pbyte d] [] (fun res H => res = pbool true ∧ H = []) := by
  have c0 := lives_c G
  have c1 := lines_c G l hl hlb
  have c2 := lines_c G m hm hmb
  have c3 := lines_c G k hk hkb
  have c4 := seed_c G c
  have c5 := seed_c G d
  have s1 := lines_small l
  have s2 := lines_small m
  have s3 := lines_small k
  have zc : (List.replicate 32 c).length = 32 := by simp
  have zd : (List.replicate 32 d).length = 32 := by simp
  have c6 := ppub_c G h0 (List.replicate 32 c) zc
  have c7 := ppub_c G h0 (List.replicate 32 d) zd
  have e1 := encode_c G h0 (List.replicate 32 c) 1 1 _ _ (by omega) ⟨by omega, by omega⟩ s1 s2
  generalize (l.take 14).map lineI = u at *
  generalize (m.take 14).map lineI = v at *
  generalize (k.take 14).map lineI = w at *
  have hsg : signF (List.replicate 32 c) 1 1 (msgM u v) = (sigT (List.replicate 32 c) 1 1 (msgM u v), 0) := by
    rw [signF, if_neg (by simp), if_neg (by simp)]
    rfl
  have hE : encF (List.replicate 32 c) 1 1 u v = (bytesB (msgM u v) ++ bytesB (sigT (List.replicate 32 c) 1 1 (msgM u v)), 0) := by
    unfold encF
    rw [hsg, if_pos rfl]
  rw [hE] at e1
  simp only at e1
  have hsl : (sigT (List.replicate 32 c) 1 1 (msgM u v)).length ≤ 4000 := by
    have := signF_len (List.replicate 32 c) 1 1 (msgM u v) ⟨by omega, by omega⟩
    rw [hsg] at this
    simp only at this
    omega
  have hpc := nodeV_len (List.replicate 32 c) 1 0
  have hpd := nodeV_len (List.replicate 32 d) 1 0
  have u1 := upd_c G h0 (nodeV (List.replicate 32 c) 1 0) _ hpc hsl u v u s1 s2 s1
  have u2 := upd_c G h0 (nodeV (List.replicate 32 c) 1 0) _ hpc hsl u v w s1 s2 s3
  have u3 := upd_c G h0 (nodeV (List.replicate 32 d) 1 0) _ hpd hsl u v u s1 s2 s1
  have hok := made_ok (List.replicate 32 c) (h := 1) (i := 1) (msgM u v) (by omega) (by omega)
  have hok2 : (verF (nodeV (List.replicate 32 c) 1 0) 1 (msgM u v) (sigT (List.replicate 32 c) 1 1 (msgM u v))).2 = 0 := by
    have h : ((1 : Nat) : Int) = 1 := rfl
    rw [h] at hok
    rw [hok]
  rw [decide_eq_true hok2] at u1 u2
  rw [updF_same] at u1
  simp only at u1
  have hne3 : nodeV (List.replicate 32 c) 1 0 = nodeV (List.replicate 32 d) 1 0 → (verF (nodeV (List.replicate 32 d) 1 0) 1 (msgM u v) (sigT (List.replicate 32 c) 1 1 (msgM u v))).2 = 0 := fun h => h ▸ hok2
  have w1 := wstrs_c G u (fun s hs => by have := s1.2 s hs; omega) (by have := enc5 s1.2 (by have := s1.1; omega); have := s1.1; omega) (by have := s1.1; omega)
  have w2 := wstrs_c G w (fun s hs => by have := s3.2 s hs; omega) (by have := enc5 s3.2 (by have := s3.1; omega); have := s3.1; omega) (by have := s3.1; omega)
  have f1 := hof_c G h0 5 [encL bytesB u] (all_lt1 (by have := enc5 s1.2 (by have := s1.1; omega); have := s1.1; omega)) (by simp)
  have f2 := hof_c G h0 5 [encL bytesB w] (all_lt1 (by have := enc5 s3.2 (by have := s3.1; omega); have := s3.1; omega)) (by simp)
  rw [show ofH 5 [encL bytesB u] = dgL u from rfl] at f1
  rw [show ofH 5 [encL bytesB w] = dgL w from rfl] at f2
  simp only [List.map_cons, List.map_nil] at f1 f2
  have sl : PCalls Tryd.prog G 13 [.list 1 (v.map pstr), .list 1 (v.map pstr)] [] (fun res H => res = pbool true ∧ H = []) := by
    have := sameLines_c G v v (by have := s2.1; omega)
    rwa [decide_eq_true rfl] at this
  have qq := q16 (dgL u) (dgL w) (dgL_len u) (dgL_len w)
  have i1 := isByte_pb (encL bytesB u)
  have i2 := unb_pb (encL bytesB u)
  have i3 := isByte_pb (encL bytesB w)
  have i4 := unb_pb (encL bytesB w)
  have lu := dgL_len u
  have lw := dgL_len w
  have ou := all_one_byte (dgL u)
  have ow := all_one_byte (dgL w)
  have h2 : (dgL u = dgL w ∧ (updF true u v w).2 ≠ 19) ∨ (dgL u ≠ dgL w ∧ (updF true u v w).2 = 19) := by
    by_cases h : dgL u = dgL w
    · exact .inl ⟨h, updF_n19 h.symm⟩
    · exact .inr ⟨h, updF_19 fun e => h e.symm⟩
  have h3 : (updF (decide ((verF (nodeV (List.replicate 32 d) 1 0) 1 (msgM u v) (sigT (List.replicate 32 c) 1 1 (msgM u v))).2 = 0)) u v u).2 = 0 ∨ ((updF (decide ((verF (nodeV (List.replicate 32 d) 1 0) 1 (msgM u v) (sigT (List.replicate 32 c) 1 1 (msgM u v))).2 = 0)) u v u).2 = 10 ∧ nodeV (List.replicate 32 c) 1 0 ≠ nodeV (List.replicate 32 d) 1 0) := by
    by_cases h : (verF (nodeV (List.replicate 32 d) 1 0) 1 (msgM u v) (sigT (List.replicate 32 c) 1 1 (msgM u v))).2 = 0
    · rw [decide_eq_true h, updF_same]
      exact .inl rfl
    · rw [decide_eq_false h, updF_bad]
      exact .inr ⟨rfl, fun e => h (hne3 e)⟩
  clear hne3 hok hok2 hsl hE hsg
  generalize updF (decide ((verF (nodeV (List.replicate 32 d) 1 0) 1 (msgM u v) (sigT (List.replicate 32 c) 1 1 (msgM u v))).2 = 0)) u v u = X3 at *
  generalize updF true u v w = X2 at *
  generalize nodeV (List.replicate 32 c) 1 0 = pc at *
  generalize nodeV (List.replicate 32 d) 1 0 = pd at *
  generalize bytesB (msgM u v) ++ bytesB (sigT (List.replicate 32 c) 1 1 (msgM u v)) = F at *
  generalize List.replicate 32 c = sc at *
  generalize List.replicate 32 d = sd at *
  generalize encL bytesB u = eu at *
  generalize encL bytesB w = ew at *
  generalize dgL u = du at *
  generalize dgL w = dw at *
  obtain ⟨x2, n2⟩ := X2
  obtain ⟨x3, n3⟩ := X3
  simp only at u2 u3 h2 h3
  clear s1 s2 s3 zc zd
  have l1 : (pc.map pbyte).length = 16 := by rw [List.length_map, hpc]
  have l2 : (pd.map pbyte).length = 16 := by rw [List.length_map, hpd]
  have p1 : (pc.map pbyte ++ [pint .i64 1]).length = 17 := by rw [List.length_append, l1]; rfl
  have p2 : (pd.map pbyte ++ [pint .i64 1]).length = 17 := by rw [List.length_append, l2]; rfl
  have p3 : List.take 17 (pc.map pbyte ++ [pint .i64 1]) = pc.map pbyte ++ [pint .i64 1] := List.take_of_length_le (by omega)
  have p4 : List.take 17 (pd.map pbyte ++ [pint .i64 1]) = pd.map pbyte ++ [pint .i64 1] := List.take_of_length_le (by omega)
  have p5 : (pc.map pbyte ++ [pint .i64 1]).all PV.one = true := by rw [List.all_append, all_one_byte]; rfl
  have p6 : (pd.map pbyte ++ [pint .i64 1]).all PV.one = true := by rw [List.all_append, all_one_byte]; rfl
  have p7 : List.drop 17 (pc.map pbyte ++ [pint .i64 1]) = [] := List.drop_of_length_le (by omega)
  have p8 : List.drop 17 (pd.map pbyte ++ [pint .i64 1]) = [] := List.drop_of_length_le (by omega)
  unfold keyP at c6 c7 e1
  unfold pubP at c6 c7 u1 u2 u3
  (refine PCalls_f Tryd.func4 rfl Tryd.ntmps4 Tryd.results4 (by simp) fun fin hfin => ?_; have hnm : True := trivial; simp only [ev, simprocAttr])
  rcases h2 with ⟨k1, k2⟩ | ⟨k1, k2⟩
  · subst k1
    have b2 : (n2 == 19) = false := by simpa using k2
    rcases h3 with k3 | ⟨k3, k4⟩
    · subst k3
      by_cases k4 : pc = pd
      · subst k4
        repeat' (first
    | (((with_reducible refine WL_pub (d := pc) (e := pc) hpc hpc false (by simp) ?_ ?_ ?_ ?_ ?_); (· rfl); (· simp only [cob, simprocAttr]; try exact rfl); (· simp only [cob, simprocAttr]; try exact rfl); (· simp only [cob, simprocAttr]; try exact rfl)))
    | (with_reducible apply W_seq_k; intro nx hnx)
    | (with_reducible first | refine wr 385874975 ?_)
    | (with_reducible refine WL_born (by simp) rfl (by simp) ?_; simp only [elemsOf, nl, bir, simprocAttr])
    | (with_reducible refine WL_bornH (by simp) (by simp) ?_ ?_ ?_; (· simp [frz, frz1, hnm]); (· simp [frz1, hnm, PV.one, Value.oneCell']); simp only [elemsOf, nl, bir, simprocAttr])
    | ((with_reducible first | (apply WL_op; intro nx hnx) | refine Ev_out ?_ | refine wc ?_ | (refine pf hnm fun nm hnm => ?_; try simp only [fmb] at hnm) | (refine pborn_im ?_; simp only [elemsOf, nl, bir, simprocAttr])); try (simp (maxSteps := 2000000) (disch := omega) only [ev, ↓evp, PV.cells, PV.one, PV.mem?, Value.cells, simprocAttr, hnm, Tryd.tf0, Tryd.tf1, Tryd.tf3, Tryd.tf4, Tryd.tf5, Tryd.tf9, Tryd.tf22, Tryd.tf24, Tryd.tf27, Tryd.tf28, Tryd.tf29, Tryd.tf32, Tryd.tf37, Tryd.teq37, Tryd.tf39, Tryd.tf40, Tryd.tf42, Tryd.call5, Tryd.call6, Tryd.call8, Tryd.call10, Tryd.call11, Tryd.call12, Tryd.call13, Tryd.call14, Tryd.call15, l1, p1, p2, p3, p4, p5, p6, p7, p8, b2, qq, i1, i2, i3, i4, List.append_nil]))
    | ((with_reducible first | apply W_block | apply W_scope | apply WL_nil | apply W_label | apply W_skip | apply W_exit | apply W_ret) <;> try simp only [kks, simprocAttr])
    | (with_reducible apply pg <;> (intro hc; (try simp only [hcb, simprocAttr, ne_eq, forall_const] at hc); first | (exfalso; omega) | exact absurd trivial hc | skip))
    | (with_reducible apply hnx; clear hnx nx)
    | (with_reducible refine And.intro (by omega) ?_)
    | (with_reducible refine And.intro ?_ ?_)
    | (with_reducible refine pe (c0) ?_)
    | (with_reducible refine pe (c1) ?_)
    | (with_reducible refine pe (c2) ?_)
    | (with_reducible refine pe (c3) ?_)
    | (with_reducible refine pe (c4) ?_)
    | (with_reducible refine pe (c5) ?_)
    | (with_reducible refine pe (c6) ?_)
    | (with_reducible refine pe (c7) ?_)
    | (with_reducible refine pe (e1) ?_)
    | (with_reducible refine pe (u1) ?_)
    | (with_reducible refine pe (u2) ?_)
    | (with_reducible refine pe (u3) ?_)
    | (with_reducible refine pe (w1) ?_)
    | (with_reducible refine pe (w2) ?_)
    | (with_reducible refine pe (f1) ?_)
    | (with_reducible refine pe (f2) ?_)
    | (with_reducible refine pe (sl) ?_)
    | (clear hnx nx; with_reducible apply hnx; clear hnx nx)
    | (clear hnx nx; clear hnx nx; with_reducible apply hnx; clear hnx nx))
        all_goals first
          | exact absurd trivial hc
          | (exfalso
             omega)
          | exact (by kernel_rfl : Tryd.prog.underlying 5 = some (.int .u8))
          | (refine hfin _ _ (Fin_ret1 rfl (Sub_nil _) ?_); simp only [cob, simprocAttr]; first | trivial | exact ⟨rfl, by trivial⟩ | (simp; done) | (simp; omega))
      · have k5 : (!decide (pc = pd)) = true := by simp [k4]
        repeat' (first
    | (((with_reducible refine WL_pub (d := pc) (e := pd) hpc hpd true k5 ?_ ?_ ?_ ?_ ?_); (· rfl); (· simp only [cob, simprocAttr]; try exact rfl); (· simp only [cob, simprocAttr]; try exact rfl); (· simp only [cob, simprocAttr]; try exact rfl)))
    | (with_reducible apply W_seq_k; intro nx hnx)
    | (with_reducible first | refine wr 385874975 ?_)
    | (with_reducible refine WL_born (by simp) rfl (by simp) ?_; simp only [elemsOf, nl, bir, simprocAttr])
    | (with_reducible refine WL_bornH (by simp) (by simp) ?_ ?_ ?_; (· simp [frz, frz1, hnm]); (· simp [frz1, hnm, PV.one, Value.oneCell']); simp only [elemsOf, nl, bir, simprocAttr])
    | ((with_reducible first | (apply WL_op; intro nx hnx) | refine Ev_out ?_ | refine wc ?_ | (refine pf hnm fun nm hnm => ?_; try simp only [fmb] at hnm) | (refine pborn_im ?_; simp only [elemsOf, nl, bir, simprocAttr])); try (simp (maxSteps := 2000000) (disch := omega) only [ev, ↓evp, PV.cells, PV.one, PV.mem?, Value.cells, simprocAttr, hnm, Tryd.tf0, Tryd.tf1, Tryd.tf3, Tryd.tf4, Tryd.tf5, Tryd.tf9, Tryd.tf22, Tryd.tf24, Tryd.tf27, Tryd.tf28, Tryd.tf29, Tryd.tf32, Tryd.tf37, Tryd.teq37, Tryd.tf39, Tryd.tf40, Tryd.tf42, Tryd.call5, Tryd.call6, Tryd.call8, Tryd.call10, Tryd.call11, Tryd.call12, Tryd.call13, Tryd.call14, Tryd.call15, l1, l2, p1, p2, p3, p4, p5, p6, p7, p8, b2, qq, i1, i2, i3, i4, List.append_nil]))
    | ((with_reducible first | apply W_block | apply W_scope | apply WL_nil | apply W_label | apply W_skip | apply W_exit | apply W_ret) <;> try simp only [kks, simprocAttr])
    | (with_reducible apply pg <;> (intro hc; (try simp only [hcb, simprocAttr, ne_eq, forall_const] at hc); first | (exfalso; omega) | exact absurd trivial hc | skip))
    | (with_reducible apply hnx; clear hnx nx)
    | (with_reducible refine And.intro (by omega) ?_)
    | (with_reducible refine And.intro ?_ ?_)
    | (with_reducible refine pe (c0) ?_)
    | (with_reducible refine pe (c1) ?_)
    | (with_reducible refine pe (c2) ?_)
    | (with_reducible refine pe (c3) ?_)
    | (with_reducible refine pe (c4) ?_)
    | (with_reducible refine pe (c5) ?_)
    | (with_reducible refine pe (c6) ?_)
    | (with_reducible refine pe (c7) ?_)
    | (with_reducible refine pe (e1) ?_)
    | (with_reducible refine pe (u1) ?_)
    | (with_reducible refine pe (u2) ?_)
    | (with_reducible refine pe (u3) ?_)
    | (with_reducible refine pe (w1) ?_)
    | (with_reducible refine pe (w2) ?_)
    | (with_reducible refine pe (f1) ?_)
    | (with_reducible refine pe (f2) ?_)
    | (with_reducible refine pe (sl) ?_)
    | (clear hnx nx; with_reducible apply hnx; clear hnx nx)
    | (clear hnx nx; clear hnx nx; with_reducible apply hnx; clear hnx nx))
        all_goals first
          | exact absurd trivial hc
          | (exfalso
             omega)
          | exact (by kernel_rfl : Tryd.prog.underlying 5 = some (.int .u8))
          | (refine hfin _ _ (Fin_ret1 rfl (Sub_nil _) ?_); simp only [cob, simprocAttr]; first | trivial | exact ⟨rfl, by trivial⟩ | (simp; done) | (simp; omega))
    · have k5 : (!decide (pc = pd)) = true := by simp [k4]
      subst k3
      repeat' (first
    | (((with_reducible refine WL_pub (d := pc) (e := pd) hpc hpd true k5 ?_ ?_ ?_ ?_ ?_); (· rfl); (· simp only [cob, simprocAttr]; try exact rfl); (· simp only [cob, simprocAttr]; try exact rfl); (· simp only [cob, simprocAttr]; try exact rfl)))
    | (with_reducible apply W_seq_k; intro nx hnx)
    | (with_reducible first | refine wr 385874975 ?_)
    | (with_reducible refine WL_born (by simp) rfl (by simp) ?_; simp only [elemsOf, nl, bir, simprocAttr])
    | (with_reducible refine WL_bornH (by simp) (by simp) ?_ ?_ ?_; (· simp [frz, frz1, hnm]); (· simp [frz1, hnm, PV.one, Value.oneCell']); simp only [elemsOf, nl, bir, simprocAttr])
    | ((with_reducible first | (apply WL_op; intro nx hnx) | refine Ev_out ?_ | refine wc ?_ | (refine pf hnm fun nm hnm => ?_; try simp only [fmb] at hnm) | (refine pborn_im ?_; simp only [elemsOf, nl, bir, simprocAttr])); try (simp (maxSteps := 2000000) (disch := omega) only [ev, ↓evp, PV.cells, PV.one, PV.mem?, Value.cells, simprocAttr, hnm, Tryd.tf0, Tryd.tf1, Tryd.tf3, Tryd.tf4, Tryd.tf5, Tryd.tf9, Tryd.tf22, Tryd.tf24, Tryd.tf27, Tryd.tf28, Tryd.tf29, Tryd.tf32, Tryd.tf37, Tryd.teq37, Tryd.tf39, Tryd.tf40, Tryd.tf42, Tryd.call5, Tryd.call6, Tryd.call8, Tryd.call10, Tryd.call11, Tryd.call12, Tryd.call13, Tryd.call14, Tryd.call15, l1, l2, p1, p2, p3, p4, p5, p6, p7, p8, b2, qq, i1, i2, i3, i4, List.append_nil]))
    | ((with_reducible first | apply W_block | apply W_scope | apply WL_nil | apply W_label | apply W_skip | apply W_exit | apply W_ret) <;> try simp only [kks, simprocAttr])
    | (with_reducible apply pg <;> (intro hc; (try simp only [hcb, simprocAttr, ne_eq, forall_const] at hc); first | (exfalso; omega) | exact absurd trivial hc | skip))
    | (with_reducible apply hnx; clear hnx nx)
    | (with_reducible refine And.intro (by omega) ?_)
    | (with_reducible refine And.intro ?_ ?_)
    | (with_reducible refine pe (c0) ?_)
    | (with_reducible refine pe (c1) ?_)
    | (with_reducible refine pe (c2) ?_)
    | (with_reducible refine pe (c3) ?_)
    | (with_reducible refine pe (c4) ?_)
    | (with_reducible refine pe (c5) ?_)
    | (with_reducible refine pe (c6) ?_)
    | (with_reducible refine pe (c7) ?_)
    | (with_reducible refine pe (e1) ?_)
    | (with_reducible refine pe (u1) ?_)
    | (with_reducible refine pe (u2) ?_)
    | (with_reducible refine pe (u3) ?_)
    | (with_reducible refine pe (w1) ?_)
    | (with_reducible refine pe (w2) ?_)
    | (with_reducible refine pe (f1) ?_)
    | (with_reducible refine pe (f2) ?_)
    | (with_reducible refine pe (sl) ?_)
    | (clear hnx nx; with_reducible apply hnx; clear hnx nx)
    | (clear hnx nx; clear hnx nx; with_reducible apply hnx; clear hnx nx))
      all_goals first
        | exact absurd trivial hc
        | (exfalso
           omega)
        | exact (by kernel_rfl : Tryd.prog.underlying 5 = some (.int .u8))
        | (refine hfin _ _ (Fin_ret1 rfl (Sub_nil _) ?_); simp only [cob, simprocAttr]; first | trivial | exact ⟨rfl, by trivial⟩ | (simp; done) | (simp; omega))
  · subst k2
    rcases h3 with k3 | ⟨k3, k4⟩
    · subst k3
      by_cases k4 : pc = pd
      · subst k4
        repeat' (first
    | (((with_reducible refine WL_pub (d := pc) (e := pc) hpc hpc false (by simp) ?_ ?_ ?_ ?_ ?_); (· rfl); (· simp only [cob, simprocAttr]; try exact rfl); (· simp only [cob, simprocAttr]; try exact rfl); (· simp only [cob, simprocAttr]; try exact rfl)))
    | (with_reducible apply W_seq_k; intro nx hnx)
    | (with_reducible first | refine wr 385874975 ?_)
    | (with_reducible refine WL_born (by simp) rfl (by simp) ?_; simp only [elemsOf, nl, bir, simprocAttr])
    | (with_reducible refine WL_bornH (by simp) (by simp) ?_ ?_ ?_; (· simp [frz, frz1, hnm]); (· simp [frz1, hnm, PV.one, Value.oneCell']); simp only [elemsOf, nl, bir, simprocAttr])
    | ((with_reducible first | (apply WL_op; intro nx hnx) | refine Ev_out ?_ | refine wc ?_ | (refine pf hnm fun nm hnm => ?_; try simp only [fmb] at hnm) | (refine pborn_im ?_; simp only [elemsOf, nl, bir, simprocAttr])); try (simp (maxSteps := 2000000) (disch := omega) only [ev, ↓evp, PV.cells, PV.one, PV.mem?, Value.cells, simprocAttr, hnm, Tryd.tf0, Tryd.tf1, Tryd.tf3, Tryd.tf4, Tryd.tf5, Tryd.tf9, Tryd.tf22, Tryd.tf24, Tryd.tf27, Tryd.tf28, Tryd.tf29, Tryd.tf32, Tryd.tf37, Tryd.teq37, Tryd.tf39, Tryd.tf40, Tryd.tf42, Tryd.call5, Tryd.call6, Tryd.call8, Tryd.call10, Tryd.call11, Tryd.call12, Tryd.call13, Tryd.call14, Tryd.call15, l1, p1, p2, p3, p4, p5, p6, p7, p8, k1, qq, i1, i2, i3, i4, List.append_nil]))
    | ((with_reducible first | apply W_block | apply W_scope | apply WL_nil | apply W_label | apply W_skip | apply W_exit | apply W_ret) <;> try simp only [kks, simprocAttr])
    | (with_reducible apply pg <;> (intro hc; (try simp only [hcb, simprocAttr, ne_eq, forall_const] at hc); first | (exfalso; omega) | exact absurd trivial hc | skip))
    | (with_reducible apply hnx; clear hnx nx)
    | (with_reducible refine And.intro (by omega) ?_)
    | (with_reducible refine And.intro ?_ ?_)
    | (with_reducible refine pe (c0) ?_)
    | (with_reducible refine pe (c1) ?_)
    | (with_reducible refine pe (c2) ?_)
    | (with_reducible refine pe (c3) ?_)
    | (with_reducible refine pe (c4) ?_)
    | (with_reducible refine pe (c5) ?_)
    | (with_reducible refine pe (c6) ?_)
    | (with_reducible refine pe (c7) ?_)
    | (with_reducible refine pe (e1) ?_)
    | (with_reducible refine pe (u1) ?_)
    | (with_reducible refine pe (u2) ?_)
    | (with_reducible refine pe (u3) ?_)
    | (with_reducible refine pe (w1) ?_)
    | (with_reducible refine pe (w2) ?_)
    | (with_reducible refine pe (f1) ?_)
    | (with_reducible refine pe (f2) ?_)
    | (with_reducible refine pe (sl) ?_)
    | (clear hnx nx; with_reducible apply hnx; clear hnx nx)
    | (clear hnx nx; clear hnx nx; with_reducible apply hnx; clear hnx nx))
        all_goals first
          | exact absurd trivial hc
          | (exfalso
             omega)
          | exact (by kernel_rfl : Tryd.prog.underlying 5 = some (.int .u8))
          | (refine hfin _ _ (Fin_ret1 rfl (Sub_nil _) ?_); simp only [cob, simprocAttr]; first | trivial | exact ⟨rfl, by trivial⟩ | (simp; done) | (simp; omega))
      · have k5 : (!decide (pc = pd)) = true := by simp [k4]
        repeat' (first
    | (((with_reducible refine WL_pub (d := pc) (e := pd) hpc hpd true k5 ?_ ?_ ?_ ?_ ?_); (· rfl); (· simp only [cob, simprocAttr]; try exact rfl); (· simp only [cob, simprocAttr]; try exact rfl); (· simp only [cob, simprocAttr]; try exact rfl)))
    | (with_reducible apply W_seq_k; intro nx hnx)
    | (with_reducible first | refine wr 385874975 ?_)
    | (with_reducible refine WL_born (by simp) rfl (by simp) ?_; simp only [elemsOf, nl, bir, simprocAttr])
    | (with_reducible refine WL_bornH (by simp) (by simp) ?_ ?_ ?_; (· simp [frz, frz1, hnm]); (· simp [frz1, hnm, PV.one, Value.oneCell']); simp only [elemsOf, nl, bir, simprocAttr])
    | ((with_reducible first | (apply WL_op; intro nx hnx) | refine Ev_out ?_ | refine wc ?_ | (refine pf hnm fun nm hnm => ?_; try simp only [fmb] at hnm) | (refine pborn_im ?_; simp only [elemsOf, nl, bir, simprocAttr])); try (simp (maxSteps := 2000000) (disch := omega) only [ev, ↓evp, PV.cells, PV.one, PV.mem?, Value.cells, simprocAttr, hnm, Tryd.tf0, Tryd.tf1, Tryd.tf3, Tryd.tf4, Tryd.tf5, Tryd.tf9, Tryd.tf22, Tryd.tf24, Tryd.tf27, Tryd.tf28, Tryd.tf29, Tryd.tf32, Tryd.tf37, Tryd.teq37, Tryd.tf39, Tryd.tf40, Tryd.tf42, Tryd.call5, Tryd.call6, Tryd.call8, Tryd.call10, Tryd.call11, Tryd.call12, Tryd.call13, Tryd.call14, Tryd.call15, l1, l2, p1, p2, p3, p4, p5, p6, p7, p8, k1, qq, i1, i2, i3, i4, List.append_nil]))
    | ((with_reducible first | apply W_block | apply W_scope | apply WL_nil | apply W_label | apply W_skip | apply W_exit | apply W_ret) <;> try simp only [kks, simprocAttr])
    | (with_reducible apply pg <;> (intro hc; (try simp only [hcb, simprocAttr, ne_eq, forall_const] at hc); first | (exfalso; omega) | exact absurd trivial hc | skip))
    | (with_reducible apply hnx; clear hnx nx)
    | (with_reducible refine And.intro (by omega) ?_)
    | (with_reducible refine And.intro ?_ ?_)
    | (with_reducible refine pe (c0) ?_)
    | (with_reducible refine pe (c1) ?_)
    | (with_reducible refine pe (c2) ?_)
    | (with_reducible refine pe (c3) ?_)
    | (with_reducible refine pe (c4) ?_)
    | (with_reducible refine pe (c5) ?_)
    | (with_reducible refine pe (c6) ?_)
    | (with_reducible refine pe (c7) ?_)
    | (with_reducible refine pe (e1) ?_)
    | (with_reducible refine pe (u1) ?_)
    | (with_reducible refine pe (u2) ?_)
    | (with_reducible refine pe (u3) ?_)
    | (with_reducible refine pe (w1) ?_)
    | (with_reducible refine pe (w2) ?_)
    | (with_reducible refine pe (f1) ?_)
    | (with_reducible refine pe (f2) ?_)
    | (with_reducible refine pe (sl) ?_)
    | (clear hnx nx; with_reducible apply hnx; clear hnx nx)
    | (clear hnx nx; clear hnx nx; with_reducible apply hnx; clear hnx nx))
        all_goals first
          | exact absurd trivial hc
          | (exfalso
             omega)
          | exact (by kernel_rfl : Tryd.prog.underlying 5 = some (.int .u8))
          | (refine hfin _ _ (Fin_ret1 rfl (Sub_nil _) ?_); simp only [cob, simprocAttr]; first | trivial | exact ⟨rfl, by trivial⟩ | (simp; done) | (simp; omega))
    · have k5 : (!decide (pc = pd)) = true := by simp [k4]
      subst k3
      repeat' (first
    | (((with_reducible refine WL_pub (d := pc) (e := pd) hpc hpd true k5 ?_ ?_ ?_ ?_ ?_); (· rfl); (· simp only [cob, simprocAttr]; try exact rfl); (· simp only [cob, simprocAttr]; try exact rfl); (· simp only [cob, simprocAttr]; try exact rfl)))
    | (with_reducible apply W_seq_k; intro nx hnx)
    | (with_reducible first | refine wr 385874975 ?_)
    | (with_reducible refine WL_born (by simp) rfl (by simp) ?_; simp only [elemsOf, nl, bir, simprocAttr])
    | (with_reducible refine WL_bornH (by simp) (by simp) ?_ ?_ ?_; (· simp [frz, frz1, hnm]); (· simp [frz1, hnm, PV.one, Value.oneCell']); simp only [elemsOf, nl, bir, simprocAttr])
    | ((with_reducible first | (apply WL_op; intro nx hnx) | refine Ev_out ?_ | refine wc ?_ | (refine pf hnm fun nm hnm => ?_; try simp only [fmb] at hnm) | (refine pborn_im ?_; simp only [elemsOf, nl, bir, simprocAttr])); try (simp (maxSteps := 2000000) (disch := omega) only [ev, ↓evp, PV.cells, PV.one, PV.mem?, Value.cells, simprocAttr, hnm, Tryd.tf0, Tryd.tf1, Tryd.tf3, Tryd.tf4, Tryd.tf5, Tryd.tf9, Tryd.tf22, Tryd.tf24, Tryd.tf27, Tryd.tf28, Tryd.tf29, Tryd.tf32, Tryd.tf37, Tryd.teq37, Tryd.tf39, Tryd.tf40, Tryd.tf42, Tryd.call5, Tryd.call6, Tryd.call8, Tryd.call10, Tryd.call11, Tryd.call12, Tryd.call13, Tryd.call14, Tryd.call15, l1, l2, p1, p2, p3, p4, p5, p6, p7, p8, k1, qq, i1, i2, i3, i4, List.append_nil]))
    | ((with_reducible first | apply W_block | apply W_scope | apply WL_nil | apply W_label | apply W_skip | apply W_exit | apply W_ret) <;> try simp only [kks, simprocAttr])
    | (with_reducible apply pg <;> (intro hc; (try simp only [hcb, simprocAttr, ne_eq, forall_const] at hc); first | (exfalso; omega) | exact absurd trivial hc | skip))
    | (with_reducible apply hnx; clear hnx nx)
    | (with_reducible refine And.intro (by omega) ?_)
    | (with_reducible refine And.intro ?_ ?_)
    | (with_reducible refine pe (c0) ?_)
    | (with_reducible refine pe (c1) ?_)
    | (with_reducible refine pe (c2) ?_)
    | (with_reducible refine pe (c3) ?_)
    | (with_reducible refine pe (c4) ?_)
    | (with_reducible refine pe (c5) ?_)
    | (with_reducible refine pe (c6) ?_)
    | (with_reducible refine pe (c7) ?_)
    | (with_reducible refine pe (e1) ?_)
    | (with_reducible refine pe (u1) ?_)
    | (with_reducible refine pe (u2) ?_)
    | (with_reducible refine pe (u3) ?_)
    | (with_reducible refine pe (w1) ?_)
    | (with_reducible refine pe (w2) ?_)
    | (with_reducible refine pe (f1) ?_)
    | (with_reducible refine pe (f2) ?_)
    | (with_reducible refine pe (sl) ?_)
    | (clear hnx nx; with_reducible apply hnx; clear hnx nx)
    | (clear hnx nx; clear hnx nx; with_reducible apply hnx; clear hnx nx))
      all_goals first
        | exact absurd trivial hc
        | (exfalso
           omega)
        | exact (by kernel_rfl : Tryd.prog.underlying 5 = some (.int .u8))
        | (refine hfin _ _ (Fin_ret1 rfl (Sub_nil _) ?_); simp only [cob, simprocAttr]; first | trivial | exact ⟨rfl, by trivial⟩ | (simp; done) | (simp; omega))
end Go.PM
