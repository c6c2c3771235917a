/- Joined texts (No 8b 8c 8d 8a 8e 8f Np Nr 8g 8h 8i): the machine, the contracts, the laws. Conditions: none but those that each names. -/
import Derived.Test.YtmnfkfikhcjeaaaJd
import Derived.Maps.RangeRun
set_option linter.unusedSimpArgs false
set_option linter.unusedVariables false
namespace Go.PM
open Go.Proofs
instance decLE : DecidableEq LE := fun a b => decidable_of_iff (a.win = b.win ∧ a.key = b.key ∧ a.wait = b.wait ∧ a.acked = b.acked ∧ a.got = b.got ∧ a.held = b.held ∧ a.owing = b.owing ∧ a.forged = b.forged) (by
  cases a
  cases b
  simp)
theorem WL_nd {P : Program} {G : Globs} {I : List Int} {l0 l : List Oper} {σ : PState} {K : PState → Prop} (h : (names σ.heap).Nodup → WL P G I l0 l σ K) : WL P G I l0 l σ K :=
  fun E hE A a w hs => h hs.nodup E hE A a w hs
theorem lv1 : (sendL (newL 2 9) [97]) = (0, ⟨2, 9, [[97]], 0, 0, [], false, 0⟩) := by decide +kernel
theorem lv2 : (sendL ⟨2, 9, [[97]], 0, 0, [], false, 0⟩ [98]) = (0, ⟨2, 9, [[97], [98]], 0, 0, [], false, 0⟩) := by decide +kernel
theorem lv3 : (sendL ⟨2, 9, [[97], [98]], 0, 0, [], false, 0⟩ [99]) = (0, ⟨2, 9, [[97], [98], [99]], 0, 0, [], false, 0⟩) := by decide +kernel
theorem lv4 : outL ⟨2, 9, [[97], [98], [99]], 0, 0, [], false, 0⟩ = ([sealP 9 1 0 [97], sealP 9 2 0 [98]], ⟨2, 9, [[97], [98], [99]], 0, 0, [], false, 0⟩) := by decide +kernel
theorem lv5 : inL (newL 2 9) (sealP 9 2 0 [98]) = (([], 0), ⟨2, 9, [], 0, 0, [(2, [98])], true, 0⟩) := by decide +kernel
theorem lv6 : inL ⟨2, 9, [], 0, 0, [(2, [98])], true, 0⟩ (sealP 9 1 0 [97]) = (([[97], [98]], 0), ⟨2, 9, [], 0, 2, [], true, 0⟩) := by decide +kernel
theorem lv7 : outL ⟨2, 9, [], 0, 2, [], true, 0⟩ = ([sealP 9 0 2 []], ⟨2, 9, [], 0, 2, [], false, 0⟩) := by decide +kernel
theorem lv8 : inL ⟨2, 9, [[97], [98], [99]], 0, 0, [], false, 0⟩ (sealP 9 0 2 []) = (([], 0), ⟨2, 9, [[99]], 2, 0, [], false, 0⟩) := by decide +kernel
theorem lv9 : outL ⟨2, 9, [[99]], 2, 0, [], false, 0⟩ = ([sealP 9 3 0 [99]], ⟨2, 9, [[99]], 2, 0, [], false, 0⟩) := by decide +kernel
theorem sealP_len (key : UInt64) (q a : Int) (b : List UInt8) (h1 : inR q) (h2 : inR a) (hb : b.length ≤ 100000) : (sealP key q a b).length ≤ 100048 := by
  have := packB_len q a b h1 h2 hb
  have := sealB_len key (packB q a b)
  rw [sealP, List.length_append]
  omega
/-- An end comes back. -/
theorem new_ok (G : Globs) (win : Int) (key : UInt64) (h : 1 ≤ win ∧ win ≤ 16) : PCalls Try.prog G 28 [pint .i64 win, pq key] [] (fun res H => ∃ e, res = .tuple [.ptr e 0, pint .i64 0] ∧ IsEnd e (newL win.toNat key) H) := by
  refine (new_c G win key).mono ?_
  rintro res H (⟨h1, _⟩ | ⟨_, _, h3⟩)
  · exact absurd h h1
  · exact h3
attribute [local irreducible] W PCalls pcall pcallI WL
section
variable {P : Program} {G : Globs} {I : List Int}
/-- A marked row is turned no more. -/
theorem WL_mark {l0 l : List Oper} {K : PState → Prop} {N d d2 : Nat} {L : List (Nat × PV)} {n : Int} {e : TypeId} {len : Nat} {cells : List PV} {H : Heap} (hI : n ∉ I) (hc : len = cells.length)
    (hL : ∀ x ∈ L, frz n cells x.2 = x.2) (hH : ∀ x ∈ H, x.1 ≠ n ∧ ∀ u ∈ x.2.cells, frz1 n cells u = u ∧ u.one = true)
    (h : WL P G I l0 l ⟨fr N ((d, .list 1 cells) :: (d2, .list 1 cells) :: L), H⟩ K) : WL P G I l0 l ⟨fr N ((d, .row n 1 len) :: (d2, .row n 1 len) :: L), (n, ⟨e, false, 1, cells⟩) :: H⟩ K := by
  subst hc
  have hdel : del ((n, (⟨e, false, 1, cells⟩ : PObj)) :: H) n = H := by
    simp only [del, if_true]
  refine WL_x ?_ h
  have h1 := Wx.freeze_f (G := G) (I := I) (N := N) (l := (d, .row n 1 cells.length) :: (d2, .row n 1 cells.length) :: L) (H := (n, ⟨e, false, 1, cells⟩) :: H) n (o := ⟨e, false, 1, cells⟩) hI (by simp only [look, if_true]) (by
    intro x hx u hu
    rw [hdel] at hx
    obtain ⟨h2, h3⟩ := (hH x hx).2 u hu
    rw [h2]
    exact h3)
  have e1 : L.map (fun x => (x.1, frz n cells x.2)) = L := by
    conv => rhs; rw [← List.map_id L]
    exact List.map_congr_left fun x hx => by rw [hL x hx]; rfl
  have e2 : frz n cells (.row n 1 cells.length) = .list 1 cells := by
    simp only [frz, frz1, if_true]
    rw [if_pos ⟨by omega, by omega⟩, elems_all]
  have e3 : frzH n cells ((n, ⟨e, false, 1, cells⟩) :: H) = H := by
    unfold frzH
    rw [hdel]
    conv => rhs; rw [← List.map_id H]
    refine List.map_congr_left fun x hx => ?_
    have h4 : x.2.cells.map (frz1 n cells) = x.2.cells := by
      conv => rhs; rw [← List.map_id x.2.cells]
      exact List.map_congr_left fun u hu => ((hH x hx).2 u hu).1
    rw [h4]
    rfl
  rw [List.map_cons, List.map_cons, e1] at h1
  simp only [e2, e3] at h1
  exact h1
end
theorem isEnd_frz {e n : Int} {s : LE} {H : Heap} (xs : List PV) (hE : IsEnd e s H) (hn : n ∉ names H) : ∀ x ∈ H, x.1 ≠ n ∧ ∀ u ∈ x.2.cells, frz1 n xs u = u ∧ u.one = true := by
  obtain ⟨w, m, rfl⟩ := hE
  simp only [names, List.map_cons, List.map_nil, List.mem_cons, List.not_mem_nil, or_false, not_or] at hn
  exact end_frz hn.1 hn.2.1 hn.2.2
theorem two_frz {n a b : Int} {o : PObj} {sa sb : LE} {Ha Hb : Heap} (xs : List PV) (hEb : IsEnd b sb Hb) (hEa : IsEnd a sa Ha) (nd : (names ((n, o) :: (Hb ++ Ha))).Nodup) : ∀ x ∈ Hb ++ Ha, x.1 ≠ n ∧ ∀ u ∈ x.2.cells, frz1 n xs u = u ∧ u.one = true := by
  have h1 : n ∉ names (Hb ++ Ha) := (List.nodup_cons.1 nd).1
  simp only [names, List.map_append, List.mem_append, not_or] at h1
  intro x hx
  rcases List.mem_append.1 hx with h | h
  · exact isEnd_frz xs hEb h1.1 x h
  · exact isEnd_frz xs hEa h1.2 x h
theorem two_ne {n a b : Int} {o : PObj} {sa sb : LE} {Ha Hb : Heap} (hEb : IsEnd b sb Hb) (hEa : IsEnd a sa Ha) (nd : (names ((n, o) :: (Hb ++ Ha))).Nodup) : (a = n) = False ∧ (b = n) = False := by
  have h1 : n ∉ names (Hb ++ Ha) := (List.nodup_cons.1 nd).1
  simp only [names, List.map_append, List.mem_append, not_or] at h1
  obtain ⟨w, m, rfl⟩ := hEa
  obtain ⟨w2, m2, rfl⟩ := hEb
  exact ⟨eq_false fun e => h1.2 (by simp [e]), eq_false fun e => h1.1 (by simp [e])⟩
theorem send_k (G : Globs) {e : Int} {s s' : LE} {b : List UInt8} {r : Int} {Hin : Heap} (h : sendL s b = (r, s')) (hH : IsEnd e s Hin) (hb : b.length ≤ 4294900000) (hw : s.wait.length ≤ 4294900000) :
    PCalls Try.prog G 11 [.ptr e 0, pl b] Hin (fun res H => res = pint .i64 r ∧ IsEnd e s' H) := by
  have := send_c G e s b hb hw Hin hH
  rwa [h] at this
theorem in_k (G : Globs) {e : Int} {s s' : LE} {x : List UInt8} {l : List (List UInt8)} {r : Int} {Hin : Heap} (h : inL s x = ((l, r), s')) (hH : IsEnd e s Hin) (hx : x.length ≤ 4294900000) (hs : OkE s) :
    PCalls Try.prog G 19 [.ptr e 0, pl x] Hin (fun res H => res = .tuple [.list 1 (l.map pl), pint .i64 r] ∧ IsEnd e s' H) := by
  have := in_c G e s x hx hs Hin hH
  rwa [h] at this
theorem out_k (G : Globs) {e : Int} {s s' : LE} {l : List (List UInt8)} {Hin : Heap} (h : outL s = (l, s')) (hH : IsEnd e s Hin) (hs : OkE s) (hwin : s.win ≤ 1000) (hW : ∀ b ∈ s.wait, b.length ≤ 65536) :
    PCalls Try.prog G 13 [.ptr e 0] Hin (fun res H => res = .list 1 (l.map pl) ∧ IsEnd e s' H) := by
  have := out_c G e s hs hwin hW Hin hH
  rwa [h] at this
set_option maxRecDepth 100000 in
set_option maxHeartbeats 8000000 in
theorem lives_c (G : Globs) : PCalls Try.prog G 23 [] [] (fun res H => res = pbool true ∧ H = []) := by
  have n1 := new_ok G 2 9 (by omega)
  have n1 : PCalls Try.prog G 28 [.val (.int .i64 2), .val (.int .u64 9)] [] (fun res H => ∃ e, res = .tuple [.ptr e 0, pint .i64 0] ∧ IsEnd e (newL 2 9) H) := n1
  (refine PCalls_f Try.func23 rfl Try.ntmps23 Try.results23 (by simp) fun fin hfin => ?_; have hnm : True := trivial; simp only [ev, Nat.reduceAdd, Nat.reduceMul, Nat.reduceSub, Nat.reduceLeDiff, Nat.reduceEqDiff, ↓reduceIte, reduceCtorEq, Nat.reduceLT, Nat.reducePow, Nat.reduceDiv, Nat.reduceMod, Nat.reduceBEq, Int.reduceLT, Int.reduceLE, Int.reduceToNat, Int.reduceAdd, Int.reduceSub, Int.reduceNeg])
  repeat' (first
    | (with_reducible apply W_seq_k; intro nx hnx)
    | (with_reducible first | refine wr 14335 ?_)
    | (with_reducible refine WL_born (by simp) rfl (by simp) ?_; simp only [elemsOf, nl, bir, Nat.reduceAdd, Nat.reduceMul, Nat.reduceSub, Nat.reduceLeDiff, Nat.reduceEqDiff, ↓reduceIte, reduceCtorEq, Nat.reduceLT, Nat.reducePow, Nat.reduceDiv, Nat.reduceMod, Nat.reduceBEq, Int.reduceLT, Int.reduceLE, Int.reduceToNat, Int.reduceAdd, Int.reduceSub, Int.reduceNeg])
    | ((with_reducible first | (apply WL_op; intro nx hnx) | refine Ev_out ?_ | refine wc ?_ | (refine pf hnm fun nm hnm => ?_; try simp only [fmb] at hnm) | (refine pborn_im ?_; simp only [elemsOf, nl, bir, Nat.reduceAdd, Nat.reduceMul, Nat.reduceSub, Nat.reduceLeDiff, Nat.reduceEqDiff, ↓reduceIte, reduceCtorEq, Nat.reduceLT, Nat.reducePow, Nat.reduceDiv, Nat.reduceMod, Nat.reduceBEq, Int.reduceLT, Int.reduceLE, Int.reduceToNat, Int.reduceAdd, Int.reduceSub, Int.reduceNeg])); try (simp (maxSteps := 2000000) (disch := omega) only [ev, ↓evp, PV.cells, PV.one, PV.mem?, Value.cells, Nat.reduceAdd, Nat.reduceMul, Nat.reduceSub, Nat.reduceLeDiff, Nat.reduceEqDiff, ↓reduceIte, reduceCtorEq, Nat.reduceLT, Nat.reducePow, Nat.reduceDiv, Nat.reduceMod, Nat.reduceBEq, Int.reduceLT, Int.reduceLE, Int.reduceToNat, Int.reduceAdd, Int.reduceSub, Int.reduceNeg, hnm, Try.tf0, Try.tf1, Try.tf3, Try.tf4, Try.tf5, Try.tf9, Try.tf22, Try.tf28, Try.tf33, Try.tf34, Try.tf35, Try.tf43, Try.tf44, Try.tf53, Try.tf65, Try.call11, Try.call13, Try.call17, Try.call18, Try.call19, Try.call21, Try.call22, Try.call28, Try.call29]))
    | ((with_reducible first | apply W_block | apply W_scope | apply WL_nil | apply W_label | apply W_skip | apply W_exit | apply W_ret) <;> try simp only [kks, Nat.reduceAdd, Nat.reduceMul, Nat.reduceSub, Nat.reduceLeDiff, Nat.reduceEqDiff, ↓reduceIte, reduceCtorEq, Nat.reduceLT, Nat.reducePow, Nat.reduceDiv, Nat.reduceMod, Nat.reduceBEq, Int.reduceLT, Int.reduceLE, Int.reduceToNat, Int.reduceAdd, Int.reduceSub, Int.reduceNeg])
    | (with_reducible apply pg <;> (intro hc; (try simp only [hcb, Nat.reduceAdd, Nat.reduceMul, Nat.reduceSub, Nat.reduceLeDiff, Nat.reduceEqDiff, ↓reduceIte, reduceCtorEq, Nat.reduceLT, Nat.reducePow, Nat.reduceDiv, Nat.reduceMod, Nat.reduceBEq, Int.reduceLT, Int.reduceLE, Int.reduceToNat, Int.reduceAdd, Int.reduceSub, Int.reduceNeg, ne_eq, forall_const] at hc); first | (exfalso; omega) | exact absurd trivial hc | skip))
    | (with_reducible apply hnx; clear hnx nx)
    | (with_reducible refine And.intro (by omega) ?_)
    | (with_reducible refine And.intro ?_ ?_)
    | (clear hnx nx; with_reducible apply hnx; clear hnx nx)
    | (clear hnx nx; clear hnx nx; with_reducible apply hnx; clear hnx nx))
  refine pcall_k n1 ?_
  rintro _ Ha ⟨a, rfl, hEa⟩ -
  refine Ev_in ?_
  repeat' (first
    | (with_reducible apply W_seq_k; intro nx hnx)
    | (with_reducible first | refine wr 14335 ?_)
    | (with_reducible refine WL_born (by simp) rfl (by simp) ?_; simp only [elemsOf, nl, bir, Nat.reduceAdd, Nat.reduceMul, Nat.reduceSub, Nat.reduceLeDiff, Nat.reduceEqDiff, ↓reduceIte, reduceCtorEq, Nat.reduceLT, Nat.reducePow, Nat.reduceDiv, Nat.reduceMod, Nat.reduceBEq, Int.reduceLT, Int.reduceLE, Int.reduceToNat, Int.reduceAdd, Int.reduceSub, Int.reduceNeg])
    | ((with_reducible first | (apply WL_op; intro nx hnx) | refine Ev_out ?_ | refine wc ?_ | (refine pf hnm fun nm hnm => ?_; try simp only [fmb] at hnm) | (refine pborn_im ?_; simp only [elemsOf, nl, bir, Nat.reduceAdd, Nat.reduceMul, Nat.reduceSub, Nat.reduceLeDiff, Nat.reduceEqDiff, ↓reduceIte, reduceCtorEq, Nat.reduceLT, Nat.reducePow, Nat.reduceDiv, Nat.reduceMod, Nat.reduceBEq, Int.reduceLT, Int.reduceLE, Int.reduceToNat, Int.reduceAdd, Int.reduceSub, Int.reduceNeg])); try (simp (maxSteps := 2000000) (disch := omega) only [ev, ↓evp, PV.cells, PV.one, PV.mem?, Value.cells, Nat.reduceAdd, Nat.reduceMul, Nat.reduceSub, Nat.reduceLeDiff, Nat.reduceEqDiff, ↓reduceIte, reduceCtorEq, Nat.reduceLT, Nat.reducePow, Nat.reduceDiv, Nat.reduceMod, Nat.reduceBEq, Int.reduceLT, Int.reduceLE, Int.reduceToNat, Int.reduceAdd, Int.reduceSub, Int.reduceNeg, hnm, Try.tf0, Try.tf1, Try.tf3, Try.tf4, Try.tf5, Try.tf9, Try.tf22, Try.tf28, Try.tf33, Try.tf34, Try.tf35, Try.tf43, Try.tf44, Try.tf53, Try.tf65, Try.call11, Try.call13, Try.call17, Try.call18, Try.call19, Try.call21, Try.call22, Try.call28, Try.call29]))
    | ((with_reducible first | apply W_block | apply W_scope | apply WL_nil | apply W_label | apply W_skip | apply W_exit | apply W_ret) <;> try simp only [kks, Nat.reduceAdd, Nat.reduceMul, Nat.reduceSub, Nat.reduceLeDiff, Nat.reduceEqDiff, ↓reduceIte, reduceCtorEq, Nat.reduceLT, Nat.reducePow, Nat.reduceDiv, Nat.reduceMod, Nat.reduceBEq, Int.reduceLT, Int.reduceLE, Int.reduceToNat, Int.reduceAdd, Int.reduceSub, Int.reduceNeg])
    | (with_reducible apply pg <;> (intro hc; (try simp only [hcb, Nat.reduceAdd, Nat.reduceMul, Nat.reduceSub, Nat.reduceLeDiff, Nat.reduceEqDiff, ↓reduceIte, reduceCtorEq, Nat.reduceLT, Nat.reducePow, Nat.reduceDiv, Nat.reduceMod, Nat.reduceBEq, Int.reduceLT, Int.reduceLE, Int.reduceToNat, Int.reduceAdd, Int.reduceSub, Int.reduceNeg, ne_eq, forall_const] at hc); first | (exfalso; omega) | exact absurd trivial hc | skip))
    | (with_reducible apply hnx; clear hnx nx)
    | (with_reducible refine And.intro (by omega) ?_)
    | (with_reducible refine And.intro ?_ ?_)
    | (clear hnx nx; with_reducible apply hnx; clear hnx nx)
    | (clear hnx nx; clear hnx nx; with_reducible apply hnx; clear hnx nx))
  refine pcall_k n1 ?_
  rintro _ Hb ⟨b, rfl, hEb⟩ -
  refine Ev_in ?_
  repeat' (first
    | (with_reducible first | refine wr 14335 ?_)
    | ((with_reducible first | (apply WL_op; intro nx hnx) | refine Ev_out ?_ | refine wc ?_ | (refine pf hnm fun nm hnm => ?_; try simp only [fmb] at hnm) | (refine pm hnm fun nm hnm => ?_; try simp only [fmb] at hnm)); try (simp (maxSteps := 2000000) (disch := omega) only [ev, ↓evp, PV.cells, PV.one, PV.mem?, Value.cells, Nat.reduceAdd, Nat.reduceMul, Nat.reduceSub, Nat.reduceLeDiff, Nat.reduceEqDiff, ↓reduceIte, reduceCtorEq, Nat.reduceLT, Nat.reducePow, Nat.reduceDiv, Nat.reduceMod, Nat.reduceBEq, Int.reduceLT, Int.reduceLE, Int.reduceToNat, Int.reduceAdd, Int.reduceSub, Int.reduceNeg, hnm, Try.tf0, Try.tf1, Try.tf3, Try.tf4, Try.tf5, Try.tf9, Try.tf22, Try.tf28, Try.tf33, Try.tf34, Try.tf35, Try.tf43, Try.tf44, Try.tf53, Try.tf65, Try.call11, Try.call13, Try.call17, Try.call18, Try.call19, Try.call21, Try.call22, Try.call28, Try.call29]))
    | ((with_reducible first | apply W_block | apply W_scope | apply WL_nil | apply W_label | apply W_skip | apply W_exit | apply W_ret) <;> try simp only [kks, Nat.reduceAdd, Nat.reduceMul, Nat.reduceSub, Nat.reduceLeDiff, Nat.reduceEqDiff, ↓reduceIte, reduceCtorEq, Nat.reduceLT, Nat.reducePow, Nat.reduceDiv, Nat.reduceMod, Nat.reduceBEq, Int.reduceLT, Int.reduceLE, Int.reduceToNat, Int.reduceAdd, Int.reduceSub, Int.reduceNeg])
    | (with_reducible apply pg <;> (intro hc; (try simp only [hcb, Nat.reduceAdd, Nat.reduceMul, Nat.reduceSub, Nat.reduceLeDiff, Nat.reduceEqDiff, ↓reduceIte, reduceCtorEq, Nat.reduceLT, Nat.reducePow, Nat.reduceDiv, Nat.reduceMod, Nat.reduceBEq, Int.reduceLT, Int.reduceLE, Int.reduceToNat, Int.reduceAdd, Int.reduceSub, Int.reduceNeg, ne_eq, forall_const] at hc); first | (exfalso; omega) | exact absurd trivial hc | skip))
    | (with_reducible apply hnx; clear hnx nx)
    | (with_reducible refine And.intro (by omega) ?_)
    | (with_reducible refine And.intro ?_ ?_)
    | (clear hnx nx; with_reducible apply hnx; clear hnx nx)
    | (clear hnx nx; clear hnx nx; with_reducible apply hnx; clear hnx nx))
  with_reducible apply W_seq_k
  intro nx hnx
  repeat' (first
    | (with_reducible first | refine wr 14335 ?_)
    | ((with_reducible first | (apply WL_op; intro nx hnx) | refine Ev_out ?_ | refine wc ?_ | (refine pf hnm fun nm hnm => ?_; try simp only [fmb] at hnm) | (refine pm hnm fun nm hnm => ?_; try simp only [fmb] at hnm)); try (simp (maxSteps := 2000000) (disch := omega) only [ev, ↓evp, PV.cells, PV.one, PV.mem?, Value.cells, Nat.reduceAdd, Nat.reduceMul, Nat.reduceSub, Nat.reduceLeDiff, Nat.reduceEqDiff, ↓reduceIte, reduceCtorEq, Nat.reduceLT, Nat.reducePow, Nat.reduceDiv, Nat.reduceMod, Nat.reduceBEq, Int.reduceLT, Int.reduceLE, Int.reduceToNat, Int.reduceAdd, Int.reduceSub, Int.reduceNeg, hnm, Try.tf0, Try.tf1, Try.tf3, Try.tf4, Try.tf5, Try.tf9, Try.tf22, Try.tf28, Try.tf33, Try.tf34, Try.tf35, Try.tf43, Try.tf44, Try.tf53, Try.tf65, Try.call11, Try.call13, Try.call17, Try.call18, Try.call19, Try.call21, Try.call22, Try.call28, Try.call29]))
    | ((with_reducible first | apply W_block | apply W_scope | apply WL_nil | apply W_label | apply W_skip | apply W_exit | apply W_ret) <;> try simp only [kks, Nat.reduceAdd, Nat.reduceMul, Nat.reduceSub, Nat.reduceLeDiff, Nat.reduceEqDiff, ↓reduceIte, reduceCtorEq, Nat.reduceLT, Nat.reducePow, Nat.reduceDiv, Nat.reduceMod, Nat.reduceBEq, Int.reduceLT, Int.reduceLE, Int.reduceToNat, Int.reduceAdd, Int.reduceSub, Int.reduceNeg])
    | (with_reducible apply pg <;> (intro hc; (try simp only [hcb, Nat.reduceAdd, Nat.reduceMul, Nat.reduceSub, Nat.reduceLeDiff, Nat.reduceEqDiff, ↓reduceIte, reduceCtorEq, Nat.reduceLT, Nat.reducePow, Nat.reduceDiv, Nat.reduceMod, Nat.reduceBEq, Int.reduceLT, Int.reduceLE, Int.reduceToNat, Int.reduceAdd, Int.reduceSub, Int.reduceNeg, ne_eq, forall_const] at hc); first | (exfalso; omega) | exact absurd trivial hc | skip))
    | (with_reducible apply hnx; clear hnx nx)
    | (with_reducible refine And.intro (by omega) ?_)
    | (with_reducible refine And.intro ?_ ?_)
    | (clear hnx nx; with_reducible apply hnx; clear hnx nx)
    | (clear hnx nx; clear hnx nx; with_reducible apply hnx; clear hnx nx))
  all_goals first
    | exact absurd trivial hc
    | skip
  with_reducible apply W_seq_k
  intro nx hnx
  repeat' (first
    | (with_reducible first | refine wr 14335 ?_)
    | ((with_reducible first | (apply WL_op; intro nx hnx) | refine Ev_out ?_ | refine wc ?_ | (refine pf hnm fun nm hnm => ?_; try simp only [fmb] at hnm) | (refine pm hnm fun nm hnm => ?_; try simp only [fmb] at hnm)); try (simp (maxSteps := 2000000) (disch := omega) only [ev, ↓evp, PV.cells, PV.one, PV.mem?, Value.cells, Nat.reduceAdd, Nat.reduceMul, Nat.reduceSub, Nat.reduceLeDiff, Nat.reduceEqDiff, ↓reduceIte, reduceCtorEq, Nat.reduceLT, Nat.reducePow, Nat.reduceDiv, Nat.reduceMod, Nat.reduceBEq, Int.reduceLT, Int.reduceLE, Int.reduceToNat, Int.reduceAdd, Int.reduceSub, Int.reduceNeg, hnm, Try.tf0, Try.tf1, Try.tf3, Try.tf4, Try.tf5, Try.tf9, Try.tf22, Try.tf28, Try.tf33, Try.tf34, Try.tf35, Try.tf43, Try.tf44, Try.tf53, Try.tf65, Try.call11, Try.call13, Try.call17, Try.call18, Try.call19, Try.call21, Try.call22, Try.call28, Try.call29]))
    | ((with_reducible first | apply W_block | apply W_scope | apply WL_nil | apply W_label | apply W_skip | apply W_exit | apply W_ret) <;> try simp only [kks, Nat.reduceAdd, Nat.reduceMul, Nat.reduceSub, Nat.reduceLeDiff, Nat.reduceEqDiff, ↓reduceIte, reduceCtorEq, Nat.reduceLT, Nat.reducePow, Nat.reduceDiv, Nat.reduceMod, Nat.reduceBEq, Int.reduceLT, Int.reduceLE, Int.reduceToNat, Int.reduceAdd, Int.reduceSub, Int.reduceNeg])
    | (with_reducible apply pg <;> (intro hc; (try simp only [hcb, Nat.reduceAdd, Nat.reduceMul, Nat.reduceSub, Nat.reduceLeDiff, Nat.reduceEqDiff, ↓reduceIte, reduceCtorEq, Nat.reduceLT, Nat.reducePow, Nat.reduceDiv, Nat.reduceMod, Nat.reduceBEq, Int.reduceLT, Int.reduceLE, Int.reduceToNat, Int.reduceAdd, Int.reduceSub, Int.reduceNeg, ne_eq, forall_const] at hc); first | (exfalso; omega) | exact absurd trivial hc | skip))
    | (with_reducible apply hnx; clear hnx nx)
    | (with_reducible refine And.intro (by omega) ?_)
    | (with_reducible refine And.intro ?_ ?_)
    | (clear hnx nx; with_reducible apply hnx; clear hnx nx)
    | (clear hnx nx; clear hnx nx; with_reducible apply hnx; clear hnx nx))
  all_goals first
    | exact absurd trivial hc
    | skip
  with_reducible apply W_seq_k
  intro nx hnx
  iterate 8 (first
    | (with_reducible apply W_seq_k; intro nx hnx)
    | (with_reducible first | refine wr 14335 ?_)
    | ((with_reducible first | (apply WL_op; intro nx hnx) | refine Ev_out ?_ | refine wc ?_ | (refine pf hnm fun nm hnm => ?_; try simp only [fmb] at hnm) | (refine pm hnm fun nm hnm => ?_; try simp only [fmb] at hnm)); try (simp (maxSteps := 2000000) (disch := omega) only [ev, ↓evp, PV.cells, PV.one, PV.mem?, Value.cells, Nat.reduceAdd, Nat.reduceMul, Nat.reduceSub, Nat.reduceLeDiff, Nat.reduceEqDiff, ↓reduceIte, reduceCtorEq, Nat.reduceLT, Nat.reducePow, Nat.reduceDiv, Nat.reduceMod, Nat.reduceBEq, Int.reduceLT, Int.reduceLE, Int.reduceToNat, Int.reduceAdd, Int.reduceSub, Int.reduceNeg, hnm, Try.tf0, Try.tf1, Try.tf3, Try.tf4, Try.tf5, Try.tf9, Try.tf22, Try.tf28, Try.tf33, Try.tf34, Try.tf35, Try.tf43, Try.tf44, Try.tf53, Try.tf65, Try.call11, Try.call13, Try.call17, Try.call18, Try.call19, Try.call21, Try.call22, Try.call28, Try.call29]))
    | ((with_reducible first | apply W_block | apply W_scope | apply WL_nil | apply W_label | apply W_skip | apply W_exit | apply W_ret) <;> try simp only [kks, Nat.reduceAdd, Nat.reduceMul, Nat.reduceSub, Nat.reduceLeDiff, Nat.reduceEqDiff, ↓reduceIte, reduceCtorEq, Nat.reduceLT, Nat.reducePow, Nat.reduceDiv, Nat.reduceMod, Nat.reduceBEq, Int.reduceLT, Int.reduceLE, Int.reduceToNat, Int.reduceAdd, Int.reduceSub, Int.reduceNeg])
    | (with_reducible apply pg <;> (intro hc; (try simp only [hcb, Nat.reduceAdd, Nat.reduceMul, Nat.reduceSub, Nat.reduceLeDiff, Nat.reduceEqDiff, ↓reduceIte, reduceCtorEq, Nat.reduceLT, Nat.reducePow, Nat.reduceDiv, Nat.reduceMod, Nat.reduceBEq, Int.reduceLT, Int.reduceLE, Int.reduceToNat, Int.reduceAdd, Int.reduceSub, Int.reduceNeg, ne_eq, forall_const] at hc); first | (exfalso; omega) | exact absurd trivial hc | skip))
    | (with_reducible apply hnx; clear hnx nx)
    | (with_reducible refine And.intro (by omega) ?_)
    | (with_reducible refine And.intro ?_ ?_)
    | (clear hnx nx; with_reducible apply hnx; clear hnx nx)
    | (clear hnx nx; clear hnx nx; with_reducible apply hnx; clear hnx nx))
  · rfl
  with_reducible apply hnx
  clear hnx nx
  refine WL_nd fun nd => ?_
  have hne := two_ne hEb hEa nd
  refine WL_mark (by simp) rfl (by simp [frz, frz1, hne]) (two_frz _ hEb hEa nd) ?_
  clear nd hne
  have s1 : PCalls Try.prog G 11 [.ptr a 0, .list 1 [.val (.int .u8 97)]] Ha _ := send_k G lv1 hEa (by simp) (by simp [newL])
  repeat' (first
    | (with_reducible first | refine wr 14335 ?_)
    | ((with_reducible first | (apply WL_op; intro nx hnx) | refine Ev_out ?_ | refine wc ?_ | (refine pf hnm fun nm hnm => ?_; try simp only [fmb] at hnm) | (refine pm hnm fun nm hnm => ?_; try simp only [fmb] at hnm)); try (simp (maxSteps := 2000000) (disch := omega) only [ev, ↓evp, PV.cells, PV.one, PV.mem?, Value.cells, Nat.reduceAdd, Nat.reduceMul, Nat.reduceSub, Nat.reduceLeDiff, Nat.reduceEqDiff, ↓reduceIte, reduceCtorEq, Nat.reduceLT, Nat.reducePow, Nat.reduceDiv, Nat.reduceMod, Nat.reduceBEq, Int.reduceLT, Int.reduceLE, Int.reduceToNat, Int.reduceAdd, Int.reduceSub, Int.reduceNeg, hnm, Try.tf0, Try.tf1, Try.tf3, Try.tf4, Try.tf5, Try.tf9, Try.tf22, Try.tf28, Try.tf33, Try.tf34, Try.tf35, Try.tf43, Try.tf44, Try.tf53, Try.tf65, Try.call11, Try.call13, Try.call17, Try.call18, Try.call19, Try.call21, Try.call22, Try.call28, Try.call29]))
    | ((with_reducible first | apply W_block | apply W_scope | apply WL_nil | apply W_label | apply W_skip | apply W_exit | apply W_ret) <;> try simp only [kks, Nat.reduceAdd, Nat.reduceMul, Nat.reduceSub, Nat.reduceLeDiff, Nat.reduceEqDiff, ↓reduceIte, reduceCtorEq, Nat.reduceLT, Nat.reducePow, Nat.reduceDiv, Nat.reduceMod, Nat.reduceBEq, Int.reduceLT, Int.reduceLE, Int.reduceToNat, Int.reduceAdd, Int.reduceSub, Int.reduceNeg])
    | (with_reducible apply pg <;> (intro hc; (try simp only [hcb, Nat.reduceAdd, Nat.reduceMul, Nat.reduceSub, Nat.reduceLeDiff, Nat.reduceEqDiff, ↓reduceIte, reduceCtorEq, Nat.reduceLT, Nat.reducePow, Nat.reduceDiv, Nat.reduceMod, Nat.reduceBEq, Int.reduceLT, Int.reduceLE, Int.reduceToNat, Int.reduceAdd, Int.reduceSub, Int.reduceNeg, ne_eq, forall_const] at hc); first | (exfalso; omega) | exact absurd trivial hc | skip))
    | (with_reducible apply hnx; clear hnx nx)
    | (with_reducible refine And.intro (by omega) ?_)
    | (with_reducible refine And.intro ?_ ?_)
    | ((refine pcall_mid Hb Ha [] (by simp) s1 ?_; rintro _ Ha1 ⟨rfl, hEa1⟩; refine Ev_in ?_))
    | (clear hnx nx; with_reducible apply hnx; clear hnx nx)
    | (clear hnx nx; clear hnx nx; with_reducible apply hnx; clear hnx nx))
  clear hEa s1
  with_reducible apply W_seq_k
  intro nx hnx
  iterate 8 (first
    | (with_reducible apply W_seq_k; intro nx hnx)
    | (with_reducible first | refine wr 14335 ?_)
    | ((with_reducible first | (apply WL_op; intro nx hnx) | refine Ev_out ?_ | refine wc ?_ | (refine pf hnm fun nm hnm => ?_; try simp only [fmb] at hnm) | (refine pm hnm fun nm hnm => ?_; try simp only [fmb] at hnm)); try (simp (maxSteps := 2000000) (disch := omega) only [ev, ↓evp, PV.cells, PV.one, PV.mem?, Value.cells, Nat.reduceAdd, Nat.reduceMul, Nat.reduceSub, Nat.reduceLeDiff, Nat.reduceEqDiff, ↓reduceIte, reduceCtorEq, Nat.reduceLT, Nat.reducePow, Nat.reduceDiv, Nat.reduceMod, Nat.reduceBEq, Int.reduceLT, Int.reduceLE, Int.reduceToNat, Int.reduceAdd, Int.reduceSub, Int.reduceNeg, hnm, Try.tf0, Try.tf1, Try.tf3, Try.tf4, Try.tf5, Try.tf9, Try.tf22, Try.tf28, Try.tf33, Try.tf34, Try.tf35, Try.tf43, Try.tf44, Try.tf53, Try.tf65, Try.call11, Try.call13, Try.call17, Try.call18, Try.call19, Try.call21, Try.call22, Try.call28, Try.call29]))
    | ((with_reducible first | apply W_block | apply W_scope | apply WL_nil | apply W_label | apply W_skip | apply W_exit | apply W_ret) <;> try simp only [kks, Nat.reduceAdd, Nat.reduceMul, Nat.reduceSub, Nat.reduceLeDiff, Nat.reduceEqDiff, ↓reduceIte, reduceCtorEq, Nat.reduceLT, Nat.reducePow, Nat.reduceDiv, Nat.reduceMod, Nat.reduceBEq, Int.reduceLT, Int.reduceLE, Int.reduceToNat, Int.reduceAdd, Int.reduceSub, Int.reduceNeg])
    | (with_reducible apply pg <;> (intro hc; (try simp only [hcb, Nat.reduceAdd, Nat.reduceMul, Nat.reduceSub, Nat.reduceLeDiff, Nat.reduceEqDiff, ↓reduceIte, reduceCtorEq, Nat.reduceLT, Nat.reducePow, Nat.reduceDiv, Nat.reduceMod, Nat.reduceBEq, Int.reduceLT, Int.reduceLE, Int.reduceToNat, Int.reduceAdd, Int.reduceSub, Int.reduceNeg, ne_eq, forall_const] at hc); first | (exfalso; omega) | exact absurd trivial hc | skip))
    | (with_reducible apply hnx; clear hnx nx)
    | (with_reducible refine And.intro (by omega) ?_)
    | (with_reducible refine And.intro ?_ ?_)
    | (clear hnx nx; with_reducible apply hnx; clear hnx nx)
    | (clear hnx nx; clear hnx nx; with_reducible apply hnx; clear hnx nx))
  · rfl
  with_reducible apply hnx
  clear hnx nx
  refine WL_nd fun nd => ?_
  have hne := two_ne hEb hEa1 nd
  refine WL_mark (by simp) rfl (by simp [frz, frz1, hne]) (two_frz _ hEb hEa1 nd) ?_
  clear nd hne
  have s2 : PCalls Try.prog G 11 [.ptr a 0, .list 1 [.val (.int .u8 98)]] Ha1 _ := send_k G lv2 hEa1 (by simp) (by simp [newL])
  repeat' (first
    | (with_reducible first | refine wr 14335 ?_)
    | ((with_reducible first | (apply WL_op; intro nx hnx) | refine Ev_out ?_ | refine wc ?_ | (refine pf hnm fun nm hnm => ?_; try simp only [fmb] at hnm) | (refine pm hnm fun nm hnm => ?_; try simp only [fmb] at hnm)); try (simp (maxSteps := 2000000) (disch := omega) only [ev, ↓evp, PV.cells, PV.one, PV.mem?, Value.cells, Nat.reduceAdd, Nat.reduceMul, Nat.reduceSub, Nat.reduceLeDiff, Nat.reduceEqDiff, ↓reduceIte, reduceCtorEq, Nat.reduceLT, Nat.reducePow, Nat.reduceDiv, Nat.reduceMod, Nat.reduceBEq, Int.reduceLT, Int.reduceLE, Int.reduceToNat, Int.reduceAdd, Int.reduceSub, Int.reduceNeg, hnm, Try.tf0, Try.tf1, Try.tf3, Try.tf4, Try.tf5, Try.tf9, Try.tf22, Try.tf28, Try.tf33, Try.tf34, Try.tf35, Try.tf43, Try.tf44, Try.tf53, Try.tf65, Try.call11, Try.call13, Try.call17, Try.call18, Try.call19, Try.call21, Try.call22, Try.call28, Try.call29]))
    | ((with_reducible first | apply W_block | apply W_scope | apply WL_nil | apply W_label | apply W_skip | apply W_exit | apply W_ret) <;> try simp only [kks, Nat.reduceAdd, Nat.reduceMul, Nat.reduceSub, Nat.reduceLeDiff, Nat.reduceEqDiff, ↓reduceIte, reduceCtorEq, Nat.reduceLT, Nat.reducePow, Nat.reduceDiv, Nat.reduceMod, Nat.reduceBEq, Int.reduceLT, Int.reduceLE, Int.reduceToNat, Int.reduceAdd, Int.reduceSub, Int.reduceNeg])
    | (with_reducible apply pg <;> (intro hc; (try simp only [hcb, Nat.reduceAdd, Nat.reduceMul, Nat.reduceSub, Nat.reduceLeDiff, Nat.reduceEqDiff, ↓reduceIte, reduceCtorEq, Nat.reduceLT, Nat.reducePow, Nat.reduceDiv, Nat.reduceMod, Nat.reduceBEq, Int.reduceLT, Int.reduceLE, Int.reduceToNat, Int.reduceAdd, Int.reduceSub, Int.reduceNeg, ne_eq, forall_const] at hc); first | (exfalso; omega) | exact absurd trivial hc | skip))
    | (with_reducible apply hnx; clear hnx nx)
    | (with_reducible refine And.intro (by omega) ?_)
    | (with_reducible refine And.intro ?_ ?_)
    | ((refine pcall_mid Hb Ha1 [] (by simp) s2 ?_; rintro _ Ha2 ⟨rfl, hEa2⟩; refine Ev_in ?_))
    | (clear hnx nx; with_reducible apply hnx; clear hnx nx)
    | (clear hnx nx; clear hnx nx; with_reducible apply hnx; clear hnx nx))
  clear hEa1 s2
  with_reducible apply W_seq_k
  intro nx hnx
  iterate 8 (first
    | (with_reducible apply W_seq_k; intro nx hnx)
    | (with_reducible first | refine wr 14335 ?_)
    | ((with_reducible first | (apply WL_op; intro nx hnx) | refine Ev_out ?_ | refine wc ?_ | (refine pf hnm fun nm hnm => ?_; try simp only [fmb] at hnm) | (refine pm hnm fun nm hnm => ?_; try simp only [fmb] at hnm)); try (simp (maxSteps := 2000000) (disch := omega) only [ev, ↓evp, PV.cells, PV.one, PV.mem?, Value.cells, Nat.reduceAdd, Nat.reduceMul, Nat.reduceSub, Nat.reduceLeDiff, Nat.reduceEqDiff, ↓reduceIte, reduceCtorEq, Nat.reduceLT, Nat.reducePow, Nat.reduceDiv, Nat.reduceMod, Nat.reduceBEq, Int.reduceLT, Int.reduceLE, Int.reduceToNat, Int.reduceAdd, Int.reduceSub, Int.reduceNeg, hnm, Try.tf0, Try.tf1, Try.tf3, Try.tf4, Try.tf5, Try.tf9, Try.tf22, Try.tf28, Try.tf33, Try.tf34, Try.tf35, Try.tf43, Try.tf44, Try.tf53, Try.tf65, Try.call11, Try.call13, Try.call17, Try.call18, Try.call19, Try.call21, Try.call22, Try.call28, Try.call29]))
    | ((with_reducible first | apply W_block | apply W_scope | apply WL_nil | apply W_label | apply W_skip | apply W_exit | apply W_ret) <;> try simp only [kks, Nat.reduceAdd, Nat.reduceMul, Nat.reduceSub, Nat.reduceLeDiff, Nat.reduceEqDiff, ↓reduceIte, reduceCtorEq, Nat.reduceLT, Nat.reducePow, Nat.reduceDiv, Nat.reduceMod, Nat.reduceBEq, Int.reduceLT, Int.reduceLE, Int.reduceToNat, Int.reduceAdd, Int.reduceSub, Int.reduceNeg])
    | (with_reducible apply pg <;> (intro hc; (try simp only [hcb, Nat.reduceAdd, Nat.reduceMul, Nat.reduceSub, Nat.reduceLeDiff, Nat.reduceEqDiff, ↓reduceIte, reduceCtorEq, Nat.reduceLT, Nat.reducePow, Nat.reduceDiv, Nat.reduceMod, Nat.reduceBEq, Int.reduceLT, Int.reduceLE, Int.reduceToNat, Int.reduceAdd, Int.reduceSub, Int.reduceNeg, ne_eq, forall_const] at hc); first | (exfalso; omega) | exact absurd trivial hc | skip))
    | (with_reducible apply hnx; clear hnx nx)
    | (with_reducible refine And.intro (by omega) ?_)
    | (with_reducible refine And.intro ?_ ?_)
    | (clear hnx nx; with_reducible apply hnx; clear hnx nx)
    | (clear hnx nx; clear hnx nx; with_reducible apply hnx; clear hnx nx))
  · rfl
  with_reducible apply hnx
  clear hnx nx
  refine WL_nd fun nd => ?_
  have hne := two_ne hEb hEa2 nd
  refine WL_mark (by simp) rfl (by simp [frz, frz1, hne]) (two_frz _ hEb hEa2 nd) ?_
  clear nd hne
  have s3 : PCalls Try.prog G 11 [.ptr a 0, .list 1 [.val (.int .u8 99)]] Ha2 _ := send_k G lv3 hEa2 (by simp) (by simp [newL])
  repeat' (first
    | (with_reducible first | refine wr 14335 ?_)
    | ((with_reducible first | (apply WL_op; intro nx hnx) | refine Ev_out ?_ | refine wc ?_ | (refine pf hnm fun nm hnm => ?_; try simp only [fmb] at hnm) | (refine pm hnm fun nm hnm => ?_; try simp only [fmb] at hnm)); try (simp (maxSteps := 2000000) (disch := omega) only [ev, ↓evp, PV.cells, PV.one, PV.mem?, Value.cells, Nat.reduceAdd, Nat.reduceMul, Nat.reduceSub, Nat.reduceLeDiff, Nat.reduceEqDiff, ↓reduceIte, reduceCtorEq, Nat.reduceLT, Nat.reducePow, Nat.reduceDiv, Nat.reduceMod, Nat.reduceBEq, Int.reduceLT, Int.reduceLE, Int.reduceToNat, Int.reduceAdd, Int.reduceSub, Int.reduceNeg, hnm, Try.tf0, Try.tf1, Try.tf3, Try.tf4, Try.tf5, Try.tf9, Try.tf22, Try.tf28, Try.tf33, Try.tf34, Try.tf35, Try.tf43, Try.tf44, Try.tf53, Try.tf65, Try.call11, Try.call13, Try.call17, Try.call18, Try.call19, Try.call21, Try.call22, Try.call28, Try.call29]))
    | ((with_reducible first | apply W_block | apply W_scope | apply WL_nil | apply W_label | apply W_skip | apply W_exit | apply W_ret) <;> try simp only [kks, Nat.reduceAdd, Nat.reduceMul, Nat.reduceSub, Nat.reduceLeDiff, Nat.reduceEqDiff, ↓reduceIte, reduceCtorEq, Nat.reduceLT, Nat.reducePow, Nat.reduceDiv, Nat.reduceMod, Nat.reduceBEq, Int.reduceLT, Int.reduceLE, Int.reduceToNat, Int.reduceAdd, Int.reduceSub, Int.reduceNeg])
    | (with_reducible apply pg <;> (intro hc; (try simp only [hcb, Nat.reduceAdd, Nat.reduceMul, Nat.reduceSub, Nat.reduceLeDiff, Nat.reduceEqDiff, ↓reduceIte, reduceCtorEq, Nat.reduceLT, Nat.reducePow, Nat.reduceDiv, Nat.reduceMod, Nat.reduceBEq, Int.reduceLT, Int.reduceLE, Int.reduceToNat, Int.reduceAdd, Int.reduceSub, Int.reduceNeg, ne_eq, forall_const] at hc); first | (exfalso; omega) | exact absurd trivial hc | skip))
    | (with_reducible apply hnx; clear hnx nx)
    | (with_reducible refine And.intro (by omega) ?_)
    | (with_reducible refine And.intro ?_ ?_)
    | ((refine pcall_mid Hb Ha2 [] (by simp) s3 ?_; rintro _ Ha3 ⟨rfl, hEa3⟩; refine Ev_in ?_))
    | (clear hnx nx; with_reducible apply hnx; clear hnx nx)
    | (clear hnx nx; clear hnx nx; with_reducible apply hnx; clear hnx nx))
  clear hEa2 s3
  have o1 := out_k G lv4 hEa3 ⟨by decide, by decide, by decide, by decide⟩ (by decide) (by decide)
  simp only [List.map_cons, List.map_nil] at o1
  have q1 := sealP_len 9 1 0 [97] ⟨by omega, by omega⟩ ⟨by omega, by omega⟩ (by simp)
  have q2 := sealP_len 9 2 0 [98] ⟨by omega, by omega⟩ ⟨by omega, by omega⟩ (by simp)
  have q3 := sealP_len 9 0 2 [] ⟨by omega, by omega⟩ ⟨by omega, by omega⟩ (by simp)
  have q4 := sealP_len 9 3 0 [99] ⟨by omega, by omega⟩ ⟨by omega, by omega⟩ (by simp)
  have i1 := in_k G lv5 hEb (by omega) ⟨by decide, by decide, by decide, by decide⟩
  have l6 := lv6
  have l7 := lv7
  have l8 := lv8
  have l9 := lv9
  have w1 := rbytesP_c G 3 0 [99] ⟨by omega, by omega⟩ ⟨by omega, by omega⟩ (by simp)
  have w2 := rseal_c G 9 (packB 3 0 [99]) (by have := packB_len 3 0 [99] ⟨by omega, by omega⟩ ⟨by omega, by omega⟩ (by simp); omega)
  rw [← sealP] at w2
  generalize sealP 9 1 0 [97] = x1 at *
  generalize sealP 9 2 0 [98] = x2 at *
  generalize sealP 9 0 2 [] = x3 at *
  generalize sealP 9 3 0 [99] = x4 at *
  generalize packB 3 0 [99] = x5 at *
  repeat' (first
    | (with_reducible apply W_seq_k; intro nx hnx)
    | (with_reducible first | refine wr 14335 ?_)
    | ((with_reducible first | (apply WL_op; intro nx hnx) | refine Ev_out ?_ | refine wc ?_ | (refine pf hnm fun nm hnm => ?_; try simp only [fmb] at hnm) | (refine pm hnm fun nm hnm => ?_; try simp only [fmb] at hnm)); try (simp (maxSteps := 2000000) (disch := omega) only [ev, ↓evp, PV.cells, PV.one, PV.mem?, Value.cells, Nat.reduceAdd, Nat.reduceMul, Nat.reduceSub, Nat.reduceLeDiff, Nat.reduceEqDiff, ↓reduceIte, reduceCtorEq, Nat.reduceLT, Nat.reducePow, Nat.reduceDiv, Nat.reduceMod, Nat.reduceBEq, Int.reduceLT, Int.reduceLE, Int.reduceToNat, Int.reduceAdd, Int.reduceSub, Int.reduceNeg, hnm, Try.tf0, Try.tf1, Try.tf3, Try.tf4, Try.tf5, Try.tf9, Try.tf22, Try.tf28, Try.tf33, Try.tf34, Try.tf35, Try.tf43, Try.tf44, Try.tf53, Try.tf65, Try.call11, Try.call13, Try.call17, Try.call18, Try.call19, Try.call21, Try.call22, Try.call28, Try.call29]))
    | ((with_reducible first | apply W_block | apply W_scope | apply WL_nil | apply W_label | apply W_skip | apply W_exit | apply W_ret) <;> try simp only [kks, Nat.reduceAdd, Nat.reduceMul, Nat.reduceSub, Nat.reduceLeDiff, Nat.reduceEqDiff, ↓reduceIte, reduceCtorEq, Nat.reduceLT, Nat.reducePow, Nat.reduceDiv, Nat.reduceMod, Nat.reduceBEq, Int.reduceLT, Int.reduceLE, Int.reduceToNat, Int.reduceAdd, Int.reduceSub, Int.reduceNeg])
    | (with_reducible apply pg <;> (intro hc; (try simp only [hcb, Nat.reduceAdd, Nat.reduceMul, Nat.reduceSub, Nat.reduceLeDiff, Nat.reduceEqDiff, ↓reduceIte, reduceCtorEq, Nat.reduceLT, Nat.reducePow, Nat.reduceDiv, Nat.reduceMod, Nat.reduceBEq, Int.reduceLT, Int.reduceLE, Int.reduceToNat, Int.reduceAdd, Int.reduceSub, Int.reduceNeg, ne_eq, forall_const] at hc); first | (exfalso; omega) | exact absurd trivial hc | skip))
    | (with_reducible apply hnx; clear hnx nx)
    | (with_reducible refine And.intro (by omega) ?_)
    | (with_reducible refine And.intro ?_ ?_)
    | ((refine pcall_mid Hb Ha3 [] (by simp) o1 ?_; rintro _ Ha4 ⟨rfl, hEa4⟩; refine Ev_in ?_))
    | (clear hnx nx; with_reducible apply hnx; clear hnx nx)
    | (clear hnx nx; clear hnx nx; with_reducible apply hnx; clear hnx nx))
  all_goals first
    | (exfalso
       omega)
    | skip
  refine pcall_mid [] Hb Ha4 rfl i1 ?_
  rintro _ Hb1 ⟨rfl, hEHb1⟩
  refine Ev_in ?_
  have i2 := in_k G l6 hEHb1 (by omega) ⟨by decide, by decide, by decide, by decide⟩
  repeat' (first
    | (with_reducible apply W_seq_k; intro nx hnx)
    | (with_reducible first | refine wr 14335 ?_)
    | ((with_reducible first | (apply WL_op; intro nx hnx) | refine Ev_out ?_ | refine wc ?_ | (refine pf hnm fun nm hnm => ?_; try simp only [fmb] at hnm) | (refine pm hnm fun nm hnm => ?_; try simp only [fmb] at hnm)); try (simp (maxSteps := 2000000) (disch := omega) only [ev, ↓evp, PV.cells, PV.one, PV.mem?, Value.cells, Nat.reduceAdd, Nat.reduceMul, Nat.reduceSub, Nat.reduceLeDiff, Nat.reduceEqDiff, ↓reduceIte, reduceCtorEq, Nat.reduceLT, Nat.reducePow, Nat.reduceDiv, Nat.reduceMod, Nat.reduceBEq, Int.reduceLT, Int.reduceLE, Int.reduceToNat, Int.reduceAdd, Int.reduceSub, Int.reduceNeg, hnm, Try.tf0, Try.tf1, Try.tf3, Try.tf4, Try.tf5, Try.tf9, Try.tf22, Try.tf28, Try.tf33, Try.tf34, Try.tf35, Try.tf43, Try.tf44, Try.tf53, Try.tf65, Try.call11, Try.call13, Try.call17, Try.call18, Try.call19, Try.call21, Try.call22, Try.call28, Try.call29]))
    | ((with_reducible first | apply W_block | apply W_scope | apply WL_nil | apply W_label | apply W_skip | apply W_exit | apply W_ret) <;> try simp only [kks, Nat.reduceAdd, Nat.reduceMul, Nat.reduceSub, Nat.reduceLeDiff, Nat.reduceEqDiff, ↓reduceIte, reduceCtorEq, Nat.reduceLT, Nat.reducePow, Nat.reduceDiv, Nat.reduceMod, Nat.reduceBEq, Int.reduceLT, Int.reduceLE, Int.reduceToNat, Int.reduceAdd, Int.reduceSub, Int.reduceNeg])
    | (with_reducible apply pg <;> (intro hc; (try simp only [hcb, Nat.reduceAdd, Nat.reduceMul, Nat.reduceSub, Nat.reduceLeDiff, Nat.reduceEqDiff, ↓reduceIte, reduceCtorEq, Nat.reduceLT, Nat.reducePow, Nat.reduceDiv, Nat.reduceMod, Nat.reduceBEq, Int.reduceLT, Int.reduceLE, Int.reduceToNat, Int.reduceAdd, Int.reduceSub, Int.reduceNeg, ne_eq, forall_const] at hc); first | (exfalso; omega) | exact absurd trivial hc | skip))
    | (with_reducible apply hnx; clear hnx nx)
    | (with_reducible refine And.intro (by omega) ?_)
    | (with_reducible refine And.intro ?_ ?_)
    | (clear hnx nx; with_reducible apply hnx; clear hnx nx)
    | (clear hnx nx; clear hnx nx; with_reducible apply hnx; clear hnx nx))
  refine pcall_mid [] Hb1 Ha4 rfl i2 ?_
  rintro _ Hb2 ⟨rfl, hEHb2⟩
  refine Ev_in ?_
  have o2 := out_k G l7 hEHb2 ⟨by decide, by decide, by decide, by decide⟩ (by decide) (by decide)
  repeat' (first
    | (with_reducible apply W_seq_k; intro nx hnx)
    | (with_reducible first | refine wr 14335 ?_)
    | ((with_reducible first | (apply WL_op; intro nx hnx) | refine Ev_out ?_ | refine wc ?_ | (refine pf hnm fun nm hnm => ?_; try simp only [fmb] at hnm) | (refine pm hnm fun nm hnm => ?_; try simp only [fmb] at hnm)); try (simp (maxSteps := 2000000) (disch := omega) only [ev, ↓evp, PV.cells, PV.one, PV.mem?, Value.cells, Nat.reduceAdd, Nat.reduceMul, Nat.reduceSub, Nat.reduceLeDiff, Nat.reduceEqDiff, ↓reduceIte, reduceCtorEq, Nat.reduceLT, Nat.reducePow, Nat.reduceDiv, Nat.reduceMod, Nat.reduceBEq, Int.reduceLT, Int.reduceLE, Int.reduceToNat, Int.reduceAdd, Int.reduceSub, Int.reduceNeg, hnm, Try.tf0, Try.tf1, Try.tf3, Try.tf4, Try.tf5, Try.tf9, Try.tf22, Try.tf28, Try.tf33, Try.tf34, Try.tf35, Try.tf43, Try.tf44, Try.tf53, Try.tf65, Try.call11, Try.call13, Try.call17, Try.call18, Try.call19, Try.call21, Try.call22, Try.call28, Try.call29]))
    | ((with_reducible first | apply W_block | apply W_scope | apply WL_nil | apply W_label | apply W_skip | apply W_exit | apply W_ret) <;> try simp only [kks, Nat.reduceAdd, Nat.reduceMul, Nat.reduceSub, Nat.reduceLeDiff, Nat.reduceEqDiff, ↓reduceIte, reduceCtorEq, Nat.reduceLT, Nat.reducePow, Nat.reduceDiv, Nat.reduceMod, Nat.reduceBEq, Int.reduceLT, Int.reduceLE, Int.reduceToNat, Int.reduceAdd, Int.reduceSub, Int.reduceNeg])
    | (with_reducible apply pg <;> (intro hc; (try simp only [hcb, Nat.reduceAdd, Nat.reduceMul, Nat.reduceSub, Nat.reduceLeDiff, Nat.reduceEqDiff, ↓reduceIte, reduceCtorEq, Nat.reduceLT, Nat.reducePow, Nat.reduceDiv, Nat.reduceMod, Nat.reduceBEq, Int.reduceLT, Int.reduceLE, Int.reduceToNat, Int.reduceAdd, Int.reduceSub, Int.reduceNeg, ne_eq, forall_const] at hc); first | (exfalso; omega) | exact absurd trivial hc | skip))
    | (with_reducible apply hnx; clear hnx nx)
    | (with_reducible refine And.intro (by omega) ?_)
    | (with_reducible refine And.intro ?_ ?_)
    | (clear hnx nx; with_reducible apply hnx; clear hnx nx)
    | (clear hnx nx; clear hnx nx; with_reducible apply hnx; clear hnx nx))
  refine pcall_mid [] Hb2 Ha4 rfl o2 ?_
  rintro _ Hb3 ⟨rfl, hEHb3⟩
  refine Ev_in ?_
  have i3 := in_k G l8 hEa4 (by omega) ⟨by decide, by decide, by decide, by decide⟩
  repeat' (first
    | (with_reducible apply W_seq_k; intro nx hnx)
    | (with_reducible first | refine wr 14335 ?_)
    | ((with_reducible first | (apply WL_op; intro nx hnx) | refine Ev_out ?_ | refine wc ?_ | (refine pf hnm fun nm hnm => ?_; try simp only [fmb] at hnm) | (refine pm hnm fun nm hnm => ?_; try simp only [fmb] at hnm)); try (simp (maxSteps := 2000000) (disch := omega) only [ev, ↓evp, PV.cells, PV.one, PV.mem?, Value.cells, Nat.reduceAdd, Nat.reduceMul, Nat.reduceSub, Nat.reduceLeDiff, Nat.reduceEqDiff, ↓reduceIte, reduceCtorEq, Nat.reduceLT, Nat.reducePow, Nat.reduceDiv, Nat.reduceMod, Nat.reduceBEq, Int.reduceLT, Int.reduceLE, Int.reduceToNat, Int.reduceAdd, Int.reduceSub, Int.reduceNeg, hnm, Try.tf0, Try.tf1, Try.tf3, Try.tf4, Try.tf5, Try.tf9, Try.tf22, Try.tf28, Try.tf33, Try.tf34, Try.tf35, Try.tf43, Try.tf44, Try.tf53, Try.tf65, Try.call11, Try.call13, Try.call17, Try.call18, Try.call19, Try.call21, Try.call22, Try.call28, Try.call29]))
    | ((with_reducible first | apply W_block | apply W_scope | apply WL_nil | apply W_label | apply W_skip | apply W_exit | apply W_ret) <;> try simp only [kks, Nat.reduceAdd, Nat.reduceMul, Nat.reduceSub, Nat.reduceLeDiff, Nat.reduceEqDiff, ↓reduceIte, reduceCtorEq, Nat.reduceLT, Nat.reducePow, Nat.reduceDiv, Nat.reduceMod, Nat.reduceBEq, Int.reduceLT, Int.reduceLE, Int.reduceToNat, Int.reduceAdd, Int.reduceSub, Int.reduceNeg])
    | (with_reducible apply pg <;> (intro hc; (try simp only [hcb, Nat.reduceAdd, Nat.reduceMul, Nat.reduceSub, Nat.reduceLeDiff, Nat.reduceEqDiff, ↓reduceIte, reduceCtorEq, Nat.reduceLT, Nat.reducePow, Nat.reduceDiv, Nat.reduceMod, Nat.reduceBEq, Int.reduceLT, Int.reduceLE, Int.reduceToNat, Int.reduceAdd, Int.reduceSub, Int.reduceNeg, ne_eq, forall_const] at hc); first | (exfalso; omega) | exact absurd trivial hc | skip))
    | (with_reducible apply hnx; clear hnx nx)
    | (with_reducible refine And.intro (by omega) ?_)
    | (with_reducible refine And.intro ?_ ?_)
    | (clear hnx nx; with_reducible apply hnx; clear hnx nx)
    | (clear hnx nx; clear hnx nx; with_reducible apply hnx; clear hnx nx))
  all_goals first
    | exact absurd trivial hc
    | exact isByte_pbyte _
    | exact (rfl : Try.prog.underlying 5 = some (TypeDesc.int IntKind.u8))
    | (exfalso
       omega)
    | (exfalso
       revert hc
       decide)
    | skip
  refine pcall_mid Hb3 Ha4 [] (by simp) i3 ?_
  rintro _ Ha5 ⟨rfl, hEa5⟩
  refine Ev_in ?_
  have o3 := out_k G l9 hEa5 ⟨by decide, by decide, by decide, by decide⟩ (by decide) (by decide)
  repeat' (first
    | (with_reducible apply W_seq_k; intro nx hnx)
    | (with_reducible first | refine wr 14335 ?_)
    | ((with_reducible first | (apply WL_op; intro nx hnx) | refine Ev_out ?_ | refine wc ?_ | (refine pf hnm fun nm hnm => ?_; try simp only [fmb] at hnm) | (refine pm hnm fun nm hnm => ?_; try simp only [fmb] at hnm)); try (simp (maxSteps := 2000000) (disch := omega) only [ev, ↓evp, PV.cells, PV.one, PV.mem?, Value.cells, Nat.reduceAdd, Nat.reduceMul, Nat.reduceSub, Nat.reduceLeDiff, Nat.reduceEqDiff, ↓reduceIte, reduceCtorEq, Nat.reduceLT, Nat.reducePow, Nat.reduceDiv, Nat.reduceMod, Nat.reduceBEq, Int.reduceLT, Int.reduceLE, Int.reduceToNat, Int.reduceAdd, Int.reduceSub, Int.reduceNeg, hnm, Try.tf0, Try.tf1, Try.tf3, Try.tf4, Try.tf5, Try.tf9, Try.tf22, Try.tf28, Try.tf33, Try.tf34, Try.tf35, Try.tf43, Try.tf44, Try.tf53, Try.tf65, Try.call11, Try.call13, Try.call17, Try.call18, Try.call19, Try.call21, Try.call22, Try.call28, Try.call29]))
    | ((with_reducible first | apply W_block | apply W_scope | apply WL_nil | apply W_label | apply W_skip | apply W_exit | apply W_ret) <;> try simp only [kks, Nat.reduceAdd, Nat.reduceMul, Nat.reduceSub, Nat.reduceLeDiff, Nat.reduceEqDiff, ↓reduceIte, reduceCtorEq, Nat.reduceLT, Nat.reducePow, Nat.reduceDiv, Nat.reduceMod, Nat.reduceBEq, Int.reduceLT, Int.reduceLE, Int.reduceToNat, Int.reduceAdd, Int.reduceSub, Int.reduceNeg])
    | (with_reducible apply pg <;> (intro hc; (try simp only [hcb, Nat.reduceAdd, Nat.reduceMul, Nat.reduceSub, Nat.reduceLeDiff, Nat.reduceEqDiff, ↓reduceIte, reduceCtorEq, Nat.reduceLT, Nat.reducePow, Nat.reduceDiv, Nat.reduceMod, Nat.reduceBEq, Int.reduceLT, Int.reduceLE, Int.reduceToNat, Int.reduceAdd, Int.reduceSub, Int.reduceNeg, ne_eq, forall_const] at hc); first | (exfalso; omega) | exact absurd trivial hc | skip))
    | (with_reducible apply hnx; clear hnx nx)
    | (with_reducible refine And.intro (by omega) ?_)
    | (with_reducible refine And.intro ?_ ?_)
    | (clear hnx nx; with_reducible apply hnx; clear hnx nx)
    | (clear hnx nx; clear hnx nx; with_reducible apply hnx; clear hnx nx))
  refine pcall_mid Hb3 Ha5 [] (by simp) o3 ?_
  rintro _ Ha6 ⟨rfl, hEa6⟩
  refine Ev_in ?_
  repeat' (first
    | (with_reducible first | refine wr 14335 ?_)
    | ((with_reducible first | (apply WL_op; intro nx hnx) | refine Ev_out ?_ | refine wc ?_ | (refine pf hnm fun nm hnm => ?_; try simp only [fmb] at hnm) | (refine pm hnm fun nm hnm => ?_; try simp only [fmb] at hnm)); try (simp (maxSteps := 2000000) (disch := omega) only [ev, ↓evp, PV.cells, PV.one, PV.mem?, Value.cells, Nat.reduceAdd, Nat.reduceMul, Nat.reduceSub, Nat.reduceLeDiff, Nat.reduceEqDiff, ↓reduceIte, reduceCtorEq, Nat.reduceLT, Nat.reducePow, Nat.reduceDiv, Nat.reduceMod, Nat.reduceBEq, Int.reduceLT, Int.reduceLE, Int.reduceToNat, Int.reduceAdd, Int.reduceSub, Int.reduceNeg, hnm, Try.tf0, Try.tf1, Try.tf3, Try.tf4, Try.tf5, Try.tf9, Try.tf22, Try.tf28, Try.tf33, Try.tf34, Try.tf35, Try.tf43, Try.tf44, Try.tf53, Try.tf65, Try.call11, Try.call13, Try.call17, Try.call18, Try.call19, Try.call21, Try.call22, Try.call28, Try.call29]))
    | ((with_reducible first | apply W_block | apply W_scope | apply WL_nil | apply W_label | apply W_skip | apply W_exit | apply W_ret) <;> try simp only [kks, Nat.reduceAdd, Nat.reduceMul, Nat.reduceSub, Nat.reduceLeDiff, Nat.reduceEqDiff, ↓reduceIte, reduceCtorEq, Nat.reduceLT, Nat.reducePow, Nat.reduceDiv, Nat.reduceMod, Nat.reduceBEq, Int.reduceLT, Int.reduceLE, Int.reduceToNat, Int.reduceAdd, Int.reduceSub, Int.reduceNeg])
    | (with_reducible apply pg <;> (intro hc; (try simp only [hcb, Nat.reduceAdd, Nat.reduceMul, Nat.reduceSub, Nat.reduceLeDiff, Nat.reduceEqDiff, ↓reduceIte, reduceCtorEq, Nat.reduceLT, Nat.reducePow, Nat.reduceDiv, Nat.reduceMod, Nat.reduceBEq, Int.reduceLT, Int.reduceLE, Int.reduceToNat, Int.reduceAdd, Int.reduceSub, Int.reduceNeg, ne_eq, forall_const] at hc); first | (exfalso; omega) | exact absurd trivial hc | skip))
    | (with_reducible apply hnx; clear hnx nx)
    | (with_reducible refine And.intro (by omega) ?_)
    | (with_reducible refine And.intro ?_ ?_)
    | (clear hnx nx; with_reducible apply hnx; clear hnx nx)
    | (clear hnx nx; clear hnx nx; with_reducible apply hnx; clear hnx nx))
  with_reducible apply W_seq_k
  intro nx hnx
  iterate 6 (first
    | (with_reducible apply W_seq_k; intro nx hnx)
    | (with_reducible first | refine wr 14335 ?_)
    | ((with_reducible first | (apply WL_op; intro nx hnx) | refine Ev_out ?_ | refine wc ?_ | (refine pf hnm fun nm hnm => ?_; try simp only [fmb] at hnm) | (refine pm hnm fun nm hnm => ?_; try simp only [fmb] at hnm)); try (simp (maxSteps := 2000000) (disch := omega) only [ev, ↓evp, PV.cells, PV.one, PV.mem?, Value.cells, Nat.reduceAdd, Nat.reduceMul, Nat.reduceSub, Nat.reduceLeDiff, Nat.reduceEqDiff, ↓reduceIte, reduceCtorEq, Nat.reduceLT, Nat.reducePow, Nat.reduceDiv, Nat.reduceMod, Nat.reduceBEq, Int.reduceLT, Int.reduceLE, Int.reduceToNat, Int.reduceAdd, Int.reduceSub, Int.reduceNeg, hnm, Try.tf0, Try.tf1, Try.tf3, Try.tf4, Try.tf5, Try.tf9, Try.tf22, Try.tf28, Try.tf33, Try.tf34, Try.tf35, Try.tf43, Try.tf44, Try.tf53, Try.tf65, Try.call11, Try.call13, Try.call17, Try.call18, Try.call19, Try.call21, Try.call22, Try.call28, Try.call29]))
    | ((with_reducible first | apply W_block | apply W_scope | apply WL_nil | apply W_label | apply W_skip | apply W_exit | apply W_ret) <;> try simp only [kks, Nat.reduceAdd, Nat.reduceMul, Nat.reduceSub, Nat.reduceLeDiff, Nat.reduceEqDiff, ↓reduceIte, reduceCtorEq, Nat.reduceLT, Nat.reducePow, Nat.reduceDiv, Nat.reduceMod, Nat.reduceBEq, Int.reduceLT, Int.reduceLE, Int.reduceToNat, Int.reduceAdd, Int.reduceSub, Int.reduceNeg])
    | (with_reducible apply pg <;> (intro hc; (try simp only [hcb, Nat.reduceAdd, Nat.reduceMul, Nat.reduceSub, Nat.reduceLeDiff, Nat.reduceEqDiff, ↓reduceIte, reduceCtorEq, Nat.reduceLT, Nat.reducePow, Nat.reduceDiv, Nat.reduceMod, Nat.reduceBEq, Int.reduceLT, Int.reduceLE, Int.reduceToNat, Int.reduceAdd, Int.reduceSub, Int.reduceNeg, ne_eq, forall_const] at hc); first | (exfalso; omega) | exact absurd trivial hc | skip))
    | (with_reducible apply hnx; clear hnx nx)
    | (with_reducible refine And.intro (by omega) ?_)
    | (with_reducible refine And.intro ?_ ?_)
    | (clear hnx nx; with_reducible apply hnx; clear hnx nx)
    | (clear hnx nx; clear hnx nx; with_reducible apply hnx; clear hnx nx))
  · rfl
  with_reducible apply hnx
  clear hnx nx
  refine WL_nd fun nd => ?_
  have hne := two_ne hEHb3 hEa6 nd
  refine WL_mark (by simp) rfl (by simp [frz, frz1, hne]) (two_frz _ hEHb3 hEa6 nd) ?_
  clear nd hne
  have w1 : PCalls Try.prog G 18 [.agg [.val (.int .i64 3), .val (.int .i64 0), .list 1 [.val (.int .u8 99)]]] [] _ := w1
  have w2 : PCalls Try.prog G 17 [.val (.int .u64 9), pl x5] [] _ := w2
  have m1 := same_c G x4 x4 (by omega)
  rw [decide_eq_true rfl] at m1
  have wt := waiting_c G a _ Ha6 hEa6
  have wf := forged_c G a _ Ha6 hEa6
  simp only [List.length_cons, List.length_nil] at wt wf
  repeat' (first
    | (with_reducible apply W_seq_k; intro nx hnx)
    | (with_reducible first | refine wr 14335 ?_)
    | ((with_reducible first | (apply WL_op; intro nx hnx) | refine Ev_out ?_ | refine wc ?_ | (refine pf hnm fun nm hnm => ?_; try simp only [fmb] at hnm) | (refine pm hnm fun nm hnm => ?_; try simp only [fmb] at hnm)); try (simp (maxSteps := 2000000) (disch := omega) only [ev, ↓evp, PV.cells, PV.one, PV.mem?, Value.cells, Nat.reduceAdd, Nat.reduceMul, Nat.reduceSub, Nat.reduceLeDiff, Nat.reduceEqDiff, ↓reduceIte, reduceCtorEq, Nat.reduceLT, Nat.reducePow, Nat.reduceDiv, Nat.reduceMod, Nat.reduceBEq, Int.reduceLT, Int.reduceLE, Int.reduceToNat, Int.reduceAdd, Int.reduceSub, Int.reduceNeg, hnm, Try.tf0, Try.tf1, Try.tf3, Try.tf4, Try.tf5, Try.tf9, Try.tf22, Try.tf28, Try.tf33, Try.tf34, Try.tf35, Try.tf43, Try.tf44, Try.tf53, Try.tf65, Try.call11, Try.call13, Try.call17, Try.call18, Try.call19, Try.call21, Try.call22, Try.call28, Try.call29]))
    | ((with_reducible first | apply W_block | apply W_scope | apply WL_nil | apply W_label | apply W_skip | apply W_exit | apply W_ret) <;> try simp only [kks, Nat.reduceAdd, Nat.reduceMul, Nat.reduceSub, Nat.reduceLeDiff, Nat.reduceEqDiff, ↓reduceIte, reduceCtorEq, Nat.reduceLT, Nat.reducePow, Nat.reduceDiv, Nat.reduceMod, Nat.reduceBEq, Int.reduceLT, Int.reduceLE, Int.reduceToNat, Int.reduceAdd, Int.reduceSub, Int.reduceNeg])
    | (with_reducible apply pg <;> (intro hc; (try simp only [hcb, Nat.reduceAdd, Nat.reduceMul, Nat.reduceSub, Nat.reduceLeDiff, Nat.reduceEqDiff, ↓reduceIte, reduceCtorEq, Nat.reduceLT, Nat.reducePow, Nat.reduceDiv, Nat.reduceMod, Nat.reduceBEq, Int.reduceLT, Int.reduceLE, Int.reduceToNat, Int.reduceAdd, Int.reduceSub, Int.reduceNeg, ne_eq, forall_const] at hc); first | (exfalso; omega) | exact absurd trivial hc | skip))
    | (with_reducible apply hnx; clear hnx nx)
    | (with_reducible refine And.intro (by omega) ?_)
    | (with_reducible refine And.intro ?_ ?_)
    | (with_reducible refine pe (w1) ?_)
    | (with_reducible refine pe (w2) ?_)
    | (with_reducible refine pe (m1) ?_)
    | (((with_reducible refine pcall_mid Hb3 Ha6 [] ?_ wt ?_); (· simp); rintro _ H' ⟨rfl, hq⟩; rw [hq]; clear hq; refine Ev_in ?_))
    | (((with_reducible refine pcall_mid Hb3 Ha6 [] ?_ wf ?_); (· simp); rintro _ H' ⟨rfl, hq⟩; rw [hq]; clear hq; refine Ev_in ?_))
    | (clear hnx nx; with_reducible apply hnx; clear hnx nx)
    | (clear hnx nx; clear hnx nx; with_reducible apply hnx; clear hnx nx))
  all_goals first
    | exact absurd trivial hc
    | (exfalso
       revert hc
       decide)
    | (refine hfin _ _ (Fin_ret1 rfl (Sub_nil _) ?_); simp only [cob, Nat.reduceAdd, Nat.reduceMul, Nat.reduceSub, Nat.reduceLeDiff, Nat.reduceEqDiff, ↓reduceIte, reduceCtorEq, Nat.reduceLT, Nat.reducePow, Nat.reduceDiv, Nat.reduceMod, Nat.reduceBEq, Int.reduceLT, Int.reduceLE, Int.reduceToNat, Int.reduceAdd, Int.reduceSub, Int.reduceNeg]; first | trivial | exact ⟨rfl, by trivial⟩ | (simp; done) | (simp; omega))
end Go.PM

namespace Go.PM
open Go.RowKit
open Go.ChangeMaps (setBlock)
section
variable {P : Program} {G : Globs} {E : Amb} {A : Nat → Prop} {σ : PState} {a : Act} {w : World} {I : List Int}
/-- An object that is known to the letter. -/
@[reducible] def letO (x : Obj) (ps : List PV) : PObj := ⟨0, false, 0, .raw x :: ps⟩
theorem ObjRep.let_inv {n : Int} {x : Obj} {ps : List PV} (h : ObjRep w A n (letO x ps)) : ∃ b : Nat, n = b ∧ w.heap[b]? = some x ∧ ps.length = (loopTmps x).size ∧
    ∀ (j : Nat) (u : PV), ps[j]? = some u → ∃ v : Value, (loopTmps x)[j]? = some v ∧ Rep w A u v := by
  rcases h with ⟨h, _⟩ | ⟨b, cur, fz, f, hb, h1, h2, h3, h4⟩ | ⟨b, es, clock, hb, h1, _, _, _, _, h4⟩ | ⟨b, o', ps', hb, h1, h2, _, h3, h4, h5⟩
  · cases h
  · have := (h4 0 (.raw x) rfl).2.2
    cases this
  · obtain ⟨e, k, v, _, h5, _⟩ := h4 0 (.raw x) rfl
    cases h5
  · cases h3
    exact ⟨b, hb, h1, h4, h5⟩
theorem ObjRep.iter {b : Nat} {m : Option Nat} {s : Nat} {l : Array Nat} {c : Nat} (h : w.heap[b]? = some (.mapIter m s l c)) : ObjRep w A b (letO (.mapIter m s l c) []) :=
  .inr (.inr (.inr ⟨b, _, [], rfl, h, .inl (by simp [kindOf, h]), rfl, rfl, rfl, fun j u hu => by simp at hu⟩))
theorem ObjRep.map0 {b : Nat} {c : Nat} (h : w.heap[b]? = some (.map #[] c)) : ObjRep w A b (letO (.map #[] c) []) :=
  .inr (.inr (.inr ⟨b, _, [], rfl, h, .inr ⟨_, _, rfl⟩, rfl, rfl, rfl, fun j u hu => by simp at hu⟩))
theorem ObjRep.map1 {b : Nat} {c : Nat} {e : MapEntry} {k v : PV} (h : w.heap[b]? = some (.map #[e] c)) (hk : Rep w A k e.key) (hv : Rep w A v e.val) : ObjRep w A b (letO (.map #[e] c) [k, v]) :=
  .inr (.inr (.inr ⟨b, _, [k, v], rfl, h, .inr ⟨_, _, rfl⟩, rfl, rfl, rfl, fun j u hu => by
    match j, hu with
    | 0, hu => cases hu; exact ⟨_, rfl, hk⟩
    | 1, hu => cases hu; exact ⟨_, rfl, hv⟩
    | j + 2, hu => simp at hu⟩))
theorem Sim.see {n : Int} {o o' : PObj} {fr : List PV} {H : Heap} (hs : Sim G E A ⟨fr, (n, o) :: H⟩ a w) (h : ObjRep w A n o') : Sim G E A ⟨fr, (n, o') :: H⟩ a w := by
  refine ⟨hs.ext, hs.lt, hs.a0, hs.a1, hs.globs, hs.nodup, fun m q hm => ?_, fun m q hm => ?_, fun m q hm => ?_, hs.defers, hs.size, hs.frame⟩
  · rcases List.mem_cons.1 hm with e | e
    · cases e; exact h
    · exact hs.objs m q (.tail _ e)
  · rcases List.mem_cons.1 hm with e | e
    · cases e; exact hs.own _ _ (.head _)
    · exact hs.own m q (.tail _ e)
  · rcases List.mem_cons.1 hm with e | e
    · cases e; exact hs.neg _ _ (.head _)
    · exact hs.neg m q (.tail _ e)
theorem Sim.newIter (hs : Sim G E A σ a w) (m : Option Nat) (s : Nat) (l : Array Nat) (c : Nat) :
    (w.heap.size : Int) ∉ names σ.heap ∧ Sim G E A ⟨σ.frame, ((w.heap.size : Int), letO (.mapIter m s l c) []) :: σ.heap⟩ a (w.alloc (.mapIter m s l c)) := by
  have hfresh : (w.heap.size : Int) ∉ names σ.heap := by
    intro h
    obtain ⟨⟨n, o'⟩, hno, hn⟩ := List.mem_map.1 h
    have := (hs.own n o' hno w.heap.size hn).1
    omega
  have he : Ext (fun _ => False) w (w.alloc (.mapIter m s l c)) := Ext.alloc _ _ _
  have hg' := hs.grow he
  refine ⟨hfresh, hg'.ext, hg'.lt, hg'.a0, hg'.a1, hg'.globs, List.nodup_cons.2 ⟨hfresh, hg'.nodup⟩, fun n o' h => ?_, fun n o' h b hb => ?_, fun n o' h hn => ?_, hg'.defers, hg'.size, hg'.frame⟩
  · cases List.mem_cons.1 h with
    | inl e =>
      cases e
      exact .iter (heap_alloc_new w _)
    | inr e => exact hg'.objs n o' e
  · cases List.mem_cons.1 h with
    | inl e =>
      cases e
      have : b = w.heap.size := by omega
      subst this
      exact ⟨by simp, fun hA => by have := hs.lt _ hA; omega, .inl hs.ext.size⟩
    | inr e => exact hg'.own n o' e b hb
  · cases List.mem_cons.1 h with
    | inl e => cases e; omega
    | inr e => exact hg'.neg n o' e hn
theorem setBlock_other {b k : Nat} {x : Obj} (h : k ≠ b) : (setBlock w b x).heap[k]? = w.heap[k]? := by
  unfold setBlock
  exact Array.getElem?_setIfInBounds_ne (Ne.symm h)
theorem setBlock_same {b : Nat} {x : Obj} (h : b < w.heap.size) : (setBlock w b x).heap[b]? = some x := by
  unfold setBlock
  exact Array.getElem?_setIfInBounds_self_of_lt h
theorem Sim.setIter {b : Nat} {m m' : Option Nat} {s s' : Nat} {l l' : Array Nat} {c c' : Nat} {fr : List PV} {H : Heap} (hs : Sim G E A ⟨fr, ((b : Int), letO (.mapIter m s l c) []) :: H⟩ a w) :
    Sim G E A ⟨fr, ((b : Int), letO (.mapIter m' s' l' c') []) :: H⟩ a (setBlock w b (.mapIter m' s' l' c')) := by
  obtain ⟨b', hb', h1, h3, h4⟩ := (hs.objs b _ List.mem_cons_self).let_inv
  have eb : b' = b := by omega
  subst eb
  obtain ⟨o1, o2, o3⟩ := hs.own b' _ List.mem_cons_self b' rfl
  have he : Ext (fun k => k = b') w (setBlock w b' (.mapIter m' s' l' c')) := by
    refine ⟨rfl, rfl, rfl, by simp [setBlock], fun k _ hk => setBlock_other hk, fun k y hk => ?_⟩
    by_cases e : k = b'
    · subst e
      simp [kindOf, h1] at hk
    · rw [kind_heap (setBlock_other e)]
      exact hk
  have hA : ∀ k, A k → ¬ k = b' := fun k hk e => o2 (e ▸ hk)
  have hnd := List.nodup_cons.1 hs.nodup
  refine ⟨hs.ext.trans he (fun k hk e => ?_), fun k hk => ?_, hs.a0, hs.a1, fun g => (hs.globs g).ext he (fun _ h => h) hA, hs.nodup, fun n o h => ?_, fun n o h k hk => ?_, fun n o h hn => ?_, hs.defers, hs.size, fun i p hp => ?_⟩
  · subst e
    rcases o3 with h | h
    · omega
    · exact h
  · simpa [setBlock] using hs.lt k hk
  · rcases List.mem_cons.1 h with e | h
    · cases e
      exact .iter (setBlock_same o1)
    · refine (hs.objs n o (List.mem_cons_of_mem _ h)).ext he (fun _ h => h) hA fun k hk e => hnd.1 (List.mem_map.2 ⟨_, h, ?_⟩)
      subst e
      exact hk
  · have hk2 : k < w.heap.size ∧ ¬ A k ∧ (E.w0.heap.size ≤ k ∨ E.M k) := by
      rcases List.mem_cons.1 h with e | h
      · cases e
        exact hs.own _ _ List.mem_cons_self k hk
      · exact hs.own n o (List.mem_cons_of_mem _ h) k hk
    exact ⟨by simpa [setBlock] using hk2.1, hk2.2⟩
  · rcases List.mem_cons.1 h with e | h
    · cases e
      exact hs.neg _ _ List.mem_cons_self hn
    · exact hs.neg n o (List.mem_cons_of_mem _ h) hn
  · obtain ⟨v, r1, r2⟩ := hs.frame i p hp
    exact ⟨v, r1, r2.ext he (fun _ h => h) hA⟩
/-- The iterator that a range is stepped through by. -/
@[reducible] def itV (r : Nat) : PV := .val (.pointer (some ⟨r, 0, none⟩))
theorem Sub_front {H : Heap} {n : Int} {o : PObj} (nd : (names H).Nodup) (hl : look H n = some o) : Sub ((n, o) :: del H n) H :=
  ⟨fun x hx => by
    rcases List.mem_cons.1 hx with e | e
    · rw [e]; exact look_mem hl
    · exact (mem_del nd e).2, List.nodup_cons.2 ⟨names_del_not n H nd, List.Sublist.nodup (names_del_sub n H) nd⟩⟩
/-- A range begins over a map with no entry. -/
theorem WL_range0 {l0 r : List Oper} {N d t x ty : Nat} {L : List (Nat × PV)} {H : Heap} {p : String} {af : Array Edge} {K : PState → Prop} {kt vt mt es : Nat} {m : Int} (ht : P.underlying t = some (.map kt vt))
    (hx : (fr N L).getD x .junk = .mp m) (hl : look H m = some ⟨mt, false, es, []⟩)
    (h : ∀ b rr clock : Nat, m = b → WL P G I l0 r ⟨fr N ((d, itV rr) :: L), ((rr : Int), letO (.mapIter (some b) clock #[] clock) []) :: ((b : Int), letO (.map #[] clock) []) :: del H b⟩ K) :
    WL P G I l0 ({ dst := some d, op := .range t (.tmp x), type := ty, pos := p, after := af, guard := none } :: r) ⟨fr N L, H⟩ K := by
  intro E hE A a w hs Q hq
  have hr := hs.opnd (.tmp x)
  simp only [opnd, hx] at hr
  obtain ⟨b, rfl, hv, hk⟩ := hr.mp_inv
  have hs := hs.sub (Sub_front hs.nodup hl)
  obtain ⟨es', clock, hb, _, hsz, hbo, hnd, hc⟩ := (hs.objs _ _ (.head _)).mapblock rfl hk rfl
  have he : es' = #[] := by simpa using hsz
  subst he
  obtain ⟨hf, s2⟩ := (hs.see (.map0 hb)).newIter (some b) clock #[] clock
  unfold wpList
  rw [if_pos (by simp [Region.wanted])]
  refine .inl (wp_of_steps (q := false) (K := fun σ' => WL P G I l0 r σ' K) ⟨.pointer (some ⟨w.heap.size, 0, none⟩), w.alloc (.mapIter (some b) clock #[] clock), _, A, .inl ?_, h b w.heap.size clock rfl, ?_, fun h => by cases h⟩ fun σ' A' a' w' hk hs' _ => hk E hE A' a' w' hs' Q hq)
  · unfold execOp
    simp only [hv, run_range_map w t kt vt b _ clock ht hb, Sem.run_bind, Result.andThen_ok]
    rfl
  · have := s2.put (some d) (.val (.pointer (some ⟨w.heap.size, 0, none⟩)))
    simpa only [PState.put, fr_set] using this
/-- A range begins over a map with one entry. -/
theorem WL_range1 {l0 r : List Oper} {N d t x ty : Nat} {L : List (Nat × PV)} {H : Heap} {p : String} {af : Array Edge} {K : PState → Prop} {kt vt mt es : Nat} {m : Int} {k v : PV} (ht : P.underlying t = some (.map kt vt))
    (hx : (fr N L).getD x .junk = .mp m) (hl : look H m = some ⟨mt, false, es, [.ent k v]⟩)
    (h : ∀ (b rr clock : Nat) (e : MapEntry), m = b → e.born < clock → WL P G I l0 r ⟨fr N ((d, itV rr) :: L), ((rr : Int), letO (.mapIter (some b) clock #[] clock) []) :: ((b : Int), letO (.map #[e] clock) [k, v]) :: del H b⟩ K) :
    WL P G I l0 ({ dst := some d, op := .range t (.tmp x), type := ty, pos := p, after := af, guard := none } :: r) ⟨fr N L, H⟩ K := by
  intro E hE A a w hs Q hq
  have hr := hs.opnd (.tmp x)
  simp only [opnd, hx] at hr
  obtain ⟨b, rfl, hv, hk⟩ := hr.mp_inv
  have hs := hs.sub (Sub_front hs.nodup hl)
  obtain ⟨es', clock, hb, _, hsz, hbo, hnd, hc⟩ := (hs.objs _ _ (.head _)).mapblock rfl hk rfl
  obtain ⟨e, k', v', he, heq, hrk, hrv⟩ := hc 0 _ rfl
  cases heq
  have he : es' = #[e] := by
    apply Array.ext
    · simpa using hsz
    · intro i h1 h2
      have : i = 0 := by simp at h2; exact h2
      subst this
      rw [Array.getElem?_eq_getElem h1] at he
      simpa using he
  subst he
  obtain ⟨hf, s2⟩ := (hs.see (.map1 hb hrk hrv)).newIter (some b) clock #[] clock
  unfold wpList
  rw [if_pos (by simp [Region.wanted])]
  refine .inl (wp_of_steps (q := false) (K := fun σ' => WL P G I l0 r σ' K) ⟨.pointer (some ⟨w.heap.size, 0, none⟩), w.alloc (.mapIter (some b) clock #[] clock), _, A, .inl ?_, h b w.heap.size clock e rfl (hbo e (by simp)), ?_, fun h => by cases h⟩ fun σ' A' a' w' hk hs' _ => hk E hE A' a' w' hs' Q hq)
  · unfold execOp
    simp only [hv, run_range_map w t kt vt b _ clock ht hb, Sem.run_bind, Result.andThen_ok]
    rfl
  · have := s2.put (some d) (.val (.pointer (some ⟨w.heap.size, 0, none⟩)))
    simpa only [PState.put, fr_set] using this
theorem tup1 {b : Bool} : Rep w A (.tuple [pbool b]) (.tuple #[.bool b]) := by
  have := Rep.tuple (w := w) (A := A) [pbool b] (fun _ => .bool b) (fun j u hu => by
    match j, hu with
    | 0, hu => cases hu; exact .val _
    | j + 1, hu => simp at hu)
  exact this
theorem tup2 {k v : PV} {x y : Value} (hk : Rep w A k x) (hv : Rep w A v y) : Rep w A (.tuple [k, v]) (.tuple #[x, y]) := by
  have := Rep.tuple (w := w) (A := A) [k, v] (fun j => if j = 0 then x else y) (fun j u hu => by
    match j, hu with
    | 0, hu => cases hu; exact hk
    | 1, hu => cases hu; exact hv
    | j + 2, hu => simp at hu)
  exact this
theorem tup3 {b : Bool} {k v : PV} {x y : Value} (hk : Rep w A k x) (hv : Rep w A v y) : Rep w A (.tuple [pbool b, k, v]) (.tuple #[.bool b, x, y]) := by
  have := Rep.tuple (w := w) (A := A) [pbool b, k, v] (fun j => if j = 0 then .bool b else if j = 1 then x else y) (fun j u hu => by
    match j, hu with
    | 0, hu => cases hu; exact .val _
    | 1, hu => cases hu; exact hk
    | 2, hu => cases hu; exact hv
    | j + 3, hu => simp at hu)
  exact this
/-- A step that finds nothing. -/
theorem WL_next0 {l0 r : List Oper} {N d x ty : Nat} {L : List (Nat × PV)} {H : Heap} {p : String} {af : Array Edge} {K : PState → Prop} {b rr since c0 clock : Nat} {seen : Array Nat} {es : Array MapEntry} {ps : List PV}
    (hx : (fr N L).getD x .junk = itV rr) (hold : ∀ x ∈ es.toList, x.born < since) (hsc : since ≤ c0) (hz : (leftOf es seen).size = 0)
    (h : WL P G I l0 r ⟨fr N ((d, .tuple [pbool false]) :: L), ((rr : Int), letO (.mapIter (some b) since seen c0) []) :: ((b : Int), letO (.map es clock) ps) :: H⟩ K) :
    WL P G I l0 ({ dst := some d, op := .next (.tmp x) false, type := ty, pos := p, after := af, guard := none } :: r) ⟨fr N L, ((rr : Int), letO (.mapIter (some b) since seen c0) []) :: ((b : Int), letO (.map es clock) ps) :: H⟩ K := by
  intro E hE A a w hs Q hq
  have hr := hs.opnd (.tmp x)
  simp only [opnd, hx] at hr
  have hv := hr.val_eq
  obtain ⟨r1, e1, h1, _⟩ := (hs.objs _ _ (.head _)).let_inv
  obtain ⟨b1, e2, h2, _⟩ := (hs.objs _ _ (.tail _ (.head _))).let_inv
  have e1 : r1 = rr := by omega
  have e2 : b1 = b := by omega
  subst e1 e2
  unfold wpList
  rw [if_pos (by simp [Region.wanted])]
  have hrun : (Instr.next (.pointer (some ⟨r1, 0, none⟩)) false ty).run P w = .ok (.tuple #[.bool false]) w := by
    rcases run_next_at (P := P) w ty r1 b1 since c0 seen es clock h1 h2 hold hsc with ⟨_, h⟩ | ⟨e, he, _⟩
    · exact h
    · have : (leftOf es seen) = #[] := Array.eq_empty_of_size_eq_zero hz
      rw [this] at he
      simp at he
  refine .inl (wp_of_steps (q := false) (K := fun σ' => WL P G I l0 r σ' K) ⟨.tuple #[.bool false], w, _, A, .inl ?_, h, ?_, fun h => by cases h⟩ fun σ' A' a' w' hk hs' _ => hk E hE A' a' w' hs' Q hq)
  · unfold execOp
    simp only [hv, hrun, Sem.run_bind, Result.andThen_ok]
    rfl
  · have := hs.put (some d) (tup1 (b := false))
    simpa only [PState.put, fr_set] using this
/-- A step that finds the one entry. -/
theorem WL_next1 {l0 r : List Oper} {N d x ty : Nat} {L : List (Nat × PV)} {H : Heap} {p : String} {af : Array Edge} {K : PState → Prop} {b rr since c0 clock : Nat} {e : MapEntry} {k v : PV}
    (hx : (fr N L).getD x .junk = itV rr) (hold : e.born < since) (hsc : since ≤ c0)
    (h : WL P G I l0 r ⟨fr N ((d, .tuple [pbool true, k, v]) :: L), ((rr : Int), letO (.mapIter (some b) since #[e.born] clock) []) :: ((b : Int), letO (.map #[e] clock) [k, v]) :: H⟩ K) :
    WL P G I l0 ({ dst := some d, op := .next (.tmp x) false, type := ty, pos := p, after := af, guard := none } :: r) ⟨fr N L, ((rr : Int), letO (.mapIter (some b) since #[] c0) []) :: ((b : Int), letO (.map #[e] clock) [k, v]) :: H⟩ K := by
  intro E hE A a w hs Q hq
  have hr := hs.opnd (.tmp x)
  simp only [opnd, hx] at hr
  have hv := hr.val_eq
  obtain ⟨r1, e1, h1, _⟩ := (hs.objs _ _ (.head _)).let_inv
  obtain ⟨b1, e2, h2, _, h3⟩ := (hs.objs _ _ (.tail _ (.head _))).let_inv
  have e1 : r1 = rr := by omega
  have e2 : b1 = b := by omega
  subst e1 e2
  obtain ⟨vk, hk1, hk2⟩ := h3 0 _ rfl
  obtain ⟨vv, hv1, hv2⟩ := h3 1 _ rfl
  have hk1 : some e.key = some vk := hk1
  have hv1 : some e.val = some vv := hv1
  cases hk1
  cases hv1
  unfold wpList
  rw [if_pos (by simp [Region.wanted])]
  have hrun : ∃ w1 : World, (w1 = w ∨ w1 = w.drew) ∧ (Instr.next (.pointer (some ⟨r1, 0, none⟩)) false ty).run P w = .ok (.tuple #[.bool true, e.key, e.val]) (setBlock w1 r1 (.mapIter (some b1) since #[e.born] clock)) := by
    have hleft : leftOf #[e] #[] = #[e] := by simp [leftOf]
    rcases run_next_at (P := P) w ty r1 b1 since c0 #[] #[e] clock h1 h2 (by simpa using hold) hsc with ⟨hn, _⟩ | ⟨e', he, w1, hw, hn⟩
    · rw [hleft] at hn
      simp at hn
    · rw [hleft] at he
      have : e' = e := by simpa using he
      subst this
      exact ⟨w1, hw, hn⟩
  obtain ⟨w1, hw, hrun⟩ := hrun
  have hex : Ext (fun _ => False) w w1 := by
    rcases hw with rfl | rfl
    · exact Ext.refl _ _
    · exact Ext.drew _ _
  have s1 := (hs.grow hex).setIter (m' := some b1) (s' := since) (l' := #[e.born]) (c' := clock)
  obtain ⟨b2, e3, _, _, h4⟩ := (s1.objs _ _ (.tail _ (.head _))).let_inv
  obtain ⟨vk, hk1, hk2⟩ := h4 0 _ rfl
  obtain ⟨vv, hv1, hv2⟩ := h4 1 _ rfl
  have hk1 : some e.key = some vk := hk1
  have hv1 : some e.val = some vv := hv1
  cases hk1
  cases hv1
  refine .inl (wp_of_steps (q := false) (K := fun σ' => WL P G I l0 r σ' K) ⟨.tuple #[.bool true, e.key, e.val], setBlock w1 r1 (.mapIter (some b1) since #[e.born] clock), _, A, .inl ?_, h, ?_, fun h => by cases h⟩ fun σ' A' a' w' hk hs' _ => hk E hE A' a' w' hs' Q hq)
  · unfold execOp
    simp only [hv, hrun, Sem.run_bind, Result.andThen_ok]
    rfl
  · have := s1.put (some d) (tup3 (b := true) hk2 hv2)
    simpa only [PState.put, fr_set] using this
/-- What the step found is read once more. -/
theorem WL_entry1 {l0 r : List Oper} {N d x ty : Nat} {L : List (Nat × PV)} {H : Heap} {p : String} {af : Array Edge} {K : PState → Prop} {b rr since clock : Nat} {e : MapEntry} {k v : PV}
    (hx : (fr N L).getD x .junk = itV rr)
    (h : WL P G I l0 r ⟨fr N ((d, .tuple [k, v]) :: L), ((rr : Int), letO (.mapIter (some b) since #[e.born] clock) []) :: ((b : Int), letO (.map #[e] clock) [k, v]) :: H⟩ K) :
    WL P G I l0 ({ dst := some d, op := .entry (.tmp x), type := ty, pos := p, after := af, guard := none } :: r) ⟨fr N L, ((rr : Int), letO (.mapIter (some b) since #[e.born] clock) []) :: ((b : Int), letO (.map #[e] clock) [k, v]) :: H⟩ K := by
  intro E hE A a w hs Q hq
  have hr := hs.opnd (.tmp x)
  simp only [opnd, hx] at hr
  have hv := hr.val_eq
  obtain ⟨r1, e1, h1, _⟩ := (hs.objs _ _ (.head _)).let_inv
  obtain ⟨b1, e2, h2, _, h3⟩ := (hs.objs _ _ (.tail _ (.head _))).let_inv
  have e1 : r1 = rr := by omega
  have e2 : b1 = b := by omega
  subst e1 e2
  obtain ⟨vk, hk1, hk2⟩ := h3 0 _ rfl
  obtain ⟨vv, hv1, hv2⟩ := h3 1 _ rfl
  have hk1 : some e.key = some vk := hk1
  have hv1 : some e.val = some vv := hv1
  cases hk1
  cases hv1
  unfold wpList
  rw [if_pos (by simp [Region.wanted])]
  have hrun := run_entry_at (P := P) w r1 b1 since #[] #[e] clock e (by simpa using h1) h2 (by simp) (by simp)
  refine .inl (wp_of_steps (q := false) (K := fun σ' => WL P G I l0 r σ' K) ⟨.tuple #[e.key, e.val], w, _, A, .inl ?_, h, ?_, fun h => by cases h⟩ fun σ' A' a' w' hk hs' _ => hk E hE A' a' w' hs' Q hq)
  · unfold execOp
    simp only [hv, hrun, Sem.run_bind, Result.andThen_ok]
    rfl
  · have := hs.put (some d) (tup2 hk2 hv2)
    simpa only [PState.put, fr_set] using this
/-- The map is an object like others again. -/
theorem Wx_unlet0 {f : List PV} {H : Heap} {b clock mt : Nat} : Wx G I ⟨f, ((b : Int), letO (.map #[] clock) []) :: H⟩ ⟨f, ((b : Int), ⟨mt, false, 0, []⟩) :: H⟩ := fun E hE A a w hs => by
  obtain ⟨b1, e2, h2, _, h3⟩ := (hs.objs _ _ (.head _)).let_inv
  have e2 : b1 = b := by omega
  subst e2
  exact ⟨A, hs.see (.inr (.inr (.inl ⟨b1, #[], clock, rfl, h2, rfl, rfl, by simp, by simp, fun j u hu => by simp at hu⟩)))⟩
theorem Wx_unlet1 {f : List PV} {H : Heap} {b clock mt : Nat} {e : MapEntry} {k v : PV} (hb : e.born < clock) : Wx G I ⟨f, ((b : Int), letO (.map #[e] clock) [k, v]) :: H⟩ ⟨f, ((b : Int), ⟨mt, false, 0, [.ent k v]⟩) :: H⟩ := fun E hE A a w hs => by
  obtain ⟨b1, e2, h2, _, h3⟩ := (hs.objs _ _ (.head _)).let_inv
  have e2 : b1 = b := by omega
  subst e2
  obtain ⟨vk, hk1, hk2⟩ := h3 0 _ rfl
  obtain ⟨vv, hv1, hv2⟩ := h3 1 _ rfl
  have hk1 : some e.key = some vk := hk1
  have hv1 : some e.val = some vv := hv1
  cases hk1
  cases hv1
  exact ⟨A, hs.see (.inr (.inr (.inl ⟨b1, #[e], clock, rfl, h2, rfl, rfl, by simpa using hb, by simp, fun j u hu => by
    match j, hu with
    | 0, hu => cases hu; exact ⟨e, k, v, rfl, rfl, hk2, hv2⟩
    | j + 1, hu => simp at hu⟩)))⟩
/-- The range is done. -/
theorem Wx_done0 {f : List PV} {H : Heap} {b rr clock since c0 mt : Nat} {seen : Array Nat} : Wx G I ⟨f, ((rr : Int), letO (.mapIter (some b) since seen c0) []) :: ((b : Int), letO (.map #[] clock) []) :: H⟩ ⟨f, ((b : Int), ⟨mt, false, 0, []⟩) :: H⟩ :=
  fun E hE A a w hs => Wx_unlet0 E hE A a w (hs.sub ⟨fun x hx => .tail _ hx, (List.nodup_cons.1 hs.nodup).2⟩)
theorem Wx_done1 {f : List PV} {H : Heap} {b rr clock since c0 mt : Nat} {seen : Array Nat} {e : MapEntry} {k v : PV} (hb : e.born < clock) :
    Wx G I ⟨f, ((rr : Int), letO (.mapIter (some b) since seen c0) []) :: ((b : Int), letO (.map #[e] clock) [k, v]) :: H⟩ ⟨f, ((b : Int), ⟨mt, false, 0, [.ent k v]⟩) :: H⟩ :=
  fun E hE A a w hs => Wx_unlet1 hb E hE A a w (hs.sub ⟨fun x hx => .tail _ hx, (List.nodup_cons.1 hs.nodup).2⟩)
/-- What a range stops at. -/
def Stopped (p : Prop) : Prop := p
theorem WL_stopR {K : PState → Prop} {l0 r : List Oper} {d t x ty : Nat} {p : String} {af : Array Edge} 
    (h : Stopped (WL P G I l0 ({ dst := some d, op := .range t (.tmp x), type := ty, pos := p, after := af, guard := none } :: r) σ K)) :
    WL P G I l0 ({ dst := some d, op := .range t (.tmp x), type := ty, pos := p, after := af, guard := none } :: r) σ K := h
theorem WL_stopN {K : PState → Prop} {l0 r : List Oper} {d x ty : Nat} {p : String} {af : Array Edge}
    (h : Stopped (WL P G I l0 ({ dst := some d, op := .next (.tmp x) false, type := ty, pos := p, after := af, guard := none } :: r) σ K)) :
    WL P G I l0 ({ dst := some d, op := .next (.tmp x) false, type := ty, pos := p, after := af, guard := none } :: r) σ K := h
theorem WL_stopE {K : PState → Prop} {l0 r : List Oper} {d x ty : Nat} {p : String} {af : Array Edge}
    (h : Stopped (WL P G I l0 ({ dst := some d, op := .entry (.tmp x), type := ty, pos := p, after := af, guard := none } :: r) σ K)) :
    WL P G I l0 ({ dst := some d, op := .entry (.tmp x), type := ty, pos := p, after := af, guard := none } :: r) σ K := h
end
end Go.PM

namespace Go.PM
open Go.Proofs
section
variable {P : Program} {G : Globs} {E : Amb} {A : Nat → Prop} {σ : PState} {a : Act} {w : World} {I : List Int}
theorem pcall_midn {fn : FuncId} {args : List PV} {R : PV → Heap → Prop} {d : Option Tmp} {K : PState → Prop} (front Hin back : Heap) (he : σ.heap = front ++ (Hin ++ back)) (hc : PCalls P G fn args Hin R)
    (hk : ∀ res Hout, R res Hout → (names (front ++ (Hout ++ back))).Nodup → K (PState.put ⟨σ.frame, front ++ (Hout ++ back)⟩ d res)) : @pcallI false P G σ d fn args ⟨K⟩ := by
  intro E A a w vals hs hsz hvals
  have nd : (names σ.heap).Nodup := hs.nodup
  rw [he] at nd
  simp only [names, List.map_append] at nd
  obtain ⟨n1, n2, n3⟩ := List.nodup_append.1 nd
  obtain ⟨n4, n5, n6⟩ := List.nodup_append.1 n2
  have hin : ∀ x ∈ Hin, x ∈ σ.heap := fun x hx => by rw [he]; exact List.mem_append_right _ (List.mem_append_left _ hx)
  have hrest : ∀ x ∈ front ++ back, x ∈ σ.heap ∧ x.1 ∉ names Hin := fun x hx => by
    rw [he]
    rcases List.mem_append.1 hx with h | h
    · exact ⟨List.mem_append_left _ h, fun hn => n3 _ (List.mem_map.2 ⟨_, h, rfl⟩) _ (List.mem_append_left _ hn) rfl⟩
    · exact ⟨List.mem_append_right _ (List.mem_append_right _ h), fun hn => n6 _ hn _ (List.mem_map.2 ⟨_, h, rfl⟩) rfl⟩
  have hrn : (names (front ++ back)).Nodup := by
    simp only [names, List.map_append]
    exact List.nodup_append.2 ⟨n1, n5, fun x hx y hy => n3 x hx y (List.mem_append_right _ hy)⟩
  refine (hc w A (names σ.heap ++ E.F) vals hs.lt hs.globs n4 (fun n o h => hs.objs n o (hin _ h)) (fun n o h b hb => ⟨(hs.own n o (hin _ h) b hb).1, (hs.own n o (hin _ h) b hb).2.1⟩) hsz hvals).mono ?_
  rintro e w' ⟨v, A', res, Hout, rfl, hR, hr, hs'⟩
  obtain ⟨hdis, hsim⟩ := hs.calledI (fun n h => List.mem_append.2 h) hin hrest hrn hs'
  have hperm : (front ++ (Hout ++ back)).Perm (Hout ++ (front ++ back)) := by
    rw [← List.append_assoc, ← List.append_assoc]
    exact List.Perm.append_right _ List.perm_append_comm
  have hsim2 : Sim G E A' ⟨σ.frame, front ++ (Hout ++ back)⟩ a w' := hsim.sub ⟨fun x hx => hperm.mem_iff.1 hx, (List.Perm.nodup_iff (List.Perm.map _ hperm)).2 hsim.nodup⟩
  exact ⟨v, _, A', rfl, hk res Hout hR hsim2.nodup, hsim2.put d hr, fun h => Bool.noConfusion h⟩
end
section
variable {P : Program} {G : Globs} {E : Amb} {A : Nat → Prop} {σ : PState} {a : Act} {w : World} {I : List Int}
/-- A call with objects in the middle; what comes back stands last. -/
theorem pcall_midl {fn : FuncId} {args : List PV} {R : PV → Heap → Prop} {d : Option Tmp} {K : PState → Prop} (front Hin back : Heap) (he : σ.heap = front ++ (Hin ++ back)) (hc : PCalls P G fn args Hin R)
    (hk : ∀ res Hout, R res Hout → K (PState.put ⟨σ.frame, front ++ (back ++ Hout)⟩ d res)) : @pcallI false P G σ d fn args ⟨K⟩ := by
  have h1 : @pcallI false P G σ d fn args ⟨fun τ => ∃ res Hout, R res Hout ∧ τ = PState.put ⟨σ.frame, front ++ (Hout ++ back)⟩ d res⟩ := pcall_midn front Hin back he hc fun res Hout hR _ => ⟨res, Hout, hR, rfl⟩
  intro E A a w vals hs hsz hvals
  refine (h1 E A a w vals hs hsz hvals).mono ?_
  rintro e w' ⟨v, σ', A', rfl, ⟨res, Hout, hR, rfl⟩, hs', hq⟩
  have hperm : (front ++ (Hout ++ back)).Perm (front ++ (back ++ Hout)) := List.Perm.append_left _ List.perm_append_comm
  refine ⟨v, _, A', rfl, hk res Hout hR, ?_, hq⟩
  have hheap : ∀ (f : List PV) (H : Heap), (PState.put ⟨f, H⟩ d res) = ⟨(PState.put ⟨f, H⟩ d res).frame, H⟩ := fun f H => by cases d <;> rfl
  have hfr : ∀ (f : List PV) (H H' : Heap), (PState.put ⟨f, H⟩ d res).frame = (PState.put ⟨f, H'⟩ d res).frame := fun f H H' => by cases d <;> rfl
  rw [hheap] at hs' ⊢
  rw [hfr _ _ (front ++ (Hout ++ back))]
  exact hs'.sub ⟨fun x hx => hperm.mem_iff.2 hx, (List.Perm.nodup_iff (List.Perm.map _ hperm)).1 hs'.nodup⟩
end
/-- An end's own cells. -/
@[reducible] def endCells (s : LE) (wt : PV) (m : Int) : List PV := [pint .i64 s.win, pq s.key, wt, pint .i64 s.acked, pint .i64 s.got, .mp m, pbool s.owing, pint .i64 s.forged]
attribute [local irreducible] W PCalls pcall pcallI WL
set_option maxRecDepth 100000 in
set_option maxHeartbeats 8000000 in
/-- A row of rows is cloned. -/
theorem clones_o (G : Globs) (w : Int) (xs : List (List UInt8)) (hx : xs.length ≤ 4294900000) :
    PCalls Try.prog G 44 [.row w 1 xs.length] [(w, ⟨33, true, 1, xs.map pl⟩)] (fun res H => (xs = [] ∧ res = pnil ∧ H = [(w, ⟨33, true, 1, xs.map pl⟩)]) ∨ ∃ N, (N = w) = False ∧ res = .row N 1 xs.length ∧ H = [(N, ⟨33, true, 1, xs.map pl⟩), (w, ⟨33, true, 1, xs.map pl⟩)]) := by
  have hl : (xs.map pl).length = xs.length := List.length_map ..
  have ht : List.take xs.length (xs.map pl) = xs.map pl := List.take_of_length_le (by omega)
  (refine PCalls_f Try.func44 rfl Try.ntmps44 Try.results44 (by simp) fun fin hfin => ?_; have hnm : True := trivial; simp only [ev, simprocAttr])
  repeat' (first
    | (with_reducible apply W_seq_k; intro nx hnx)
    | (with_reducible first | refine wr 5 ?_)
    | ((with_reducible first | (apply WL_op; intro nx hnx) | refine Ev_out ?_ | refine wc ?_ | (refine pf hnm fun nm hnm => ?_; try simp only [fmb] at hnm) | (refine pm hnm fun nm hnm => ?_; try simp only [fmb] at hnm) | (refine pmaybe_k ?_; intro bn hbn)); try (simp (maxSteps := 2000000) (disch := omega) only [ev, ↓evp, PV.cells, PV.one, PV.mem?, Value.cells, simprocAttr, hnm, Try.tf0, Try.tf4, Try.tf5, Try.tf28, Try.tf33, hl, ht, Nat.le_refl]))
    | ((with_reducible first | apply W_block | apply W_scope | apply WL_nil | apply W_label | apply W_skip | apply W_exit | apply W_ret) <;> try simp only [kks, simprocAttr])
    | (with_reducible apply pg <;> (intro hc; (try simp only [hcb, simprocAttr, ne_eq, forall_const] at hc); first | (exfalso; omega) | exact absurd trivial hc | skip))
    | (with_reducible apply hnx; clear hnx nx)
    | (with_reducible refine And.intro (by omega) ?_)
    | (with_reducible refine And.intro ?_ ?_)
    | (clear hnx nx; with_reducible apply hnx; clear hnx nx)
    | (clear hnx nx; clear hnx nx; with_reducible apply hnx; clear hnx nx))
  all_goals first
    | (exfalso
       omega)
    | skip
  · refine hfin _ _ (Fin_ret1 rfl (Sub_refl (by simp [names])) (.inl ⟨?_, by simp only [fr_getD_cons, Nat.reduceEqDiff, Nat.reduceLT, ↓reduceIte], rfl⟩))
    cases xs with
    | nil => rfl
    | cons x b =>
      subst hc
      exact absurd (hbn (by simp)) (by simp)
  · refine hfin _ _ (Fin_ret1 rfl (H := [(nm, ⟨33, true, 1, xs.map pl⟩), (w, ⟨33, true, 1, xs.map pl⟩)]) ⟨by simp, by simp [names, hnm]⟩ (.inr ⟨nm, by simp [hnm], ?_, rfl⟩))
    simp only [fr_getD_cons, Nat.reduceEqDiff, Nat.reduceLT, ↓reduceIte]
/-- The clone of what waits. -/
@[reducible] def CloneR (w : Int) (xs : List (List UInt8)) (res : PV) (H : Heap) : Prop := (xs = [] ∧ res = pnil ∧ H = [(w, ⟨33, true, 1, xs.map pl⟩)]) ∨ ∃ N, (N = w) = False ∧ res = .row N 1 xs.length ∧ H = [(N, ⟨33, true, 1, xs.map pl⟩), (w, ⟨33, true, 1, xs.map pl⟩)]
/-- What a copy leaves. -/
@[reducible] def CopyR (e w m : Int) (s : LE) (res : PV) (H : Heap) : Prop := ∃ (e2 m2 : Int) (c2 : PV) (Hw : Heap), res = .ptr e2 0 ∧ CloneR w s.wait c2 Hw ∧
  H = (m, ⟨63, false, 0, entsP s.held⟩) :: (m2, ⟨63, false, 0, entsP s.held⟩) :: (e2, ⟨65, false, 0, endCells s c2 m2⟩) :: (e, ⟨65, false, 0, endCells s (.row w 1 s.wait.length) m⟩) :: Hw
set_option maxRecDepth 100000 in
set_option maxHeartbeats 8000000 in
theorem copy_r0 (G : Globs) (e w m : Int) (s : LE) (hx : s.wait.length ≤ 4294900000) (hh : s.held = []) :
    PCalls Try.prog G 31 [.ptr e 0] (endO e w m s) (CopyR e w m s) := by
  refine PCalls.nd fun nd => ?_
  have hM := end_nd nd
  (refine PCalls_f Try.func31 rfl Try.ntmps31 Try.results31 (by simp) fun fin hfin => ?_; have hnm : True := trivial; simp only [ev, simprocAttr])
  repeat' (first
    | (with_reducible apply W_seq_k; intro nx hnx)
    | (with_reducible first | refine wr 2097213 ?_)
    | ((with_reducible first | (apply WL_op; intro nx hnx) | refine Ev_out ?_ | refine wc ?_ | (refine pf hnm fun nm hnm => ?_; try simp only [fmb] at hnm) | (refine pm hnm fun nm hnm => ?_; try simp only [fmb] at hnm)); try (simp (maxSteps := 2000000) (disch := omega) only [ev, ↓evp, PV.cells, PV.one, PV.mem?, Value.cells, simprocAttr, hnm, Try.tf0, Try.tf1, Try.tf2, Try.tf3, Try.tf4, Try.tf5, Try.tf28, Try.tf33, Try.tf35, Try.tf63, Try.tf65, Try.call44, hM]))
    | ((with_reducible first | apply W_block | apply W_scope | apply WL_nil | apply W_label | apply W_skip | apply W_exit | apply W_ret) <;> try simp only [kks, simprocAttr])
    | (with_reducible apply pg <;> (intro hc; (try simp only [hcb, simprocAttr, ne_eq, forall_const] at hc); first | (exfalso; omega) | exact absurd trivial hc | skip))
    | (with_reducible apply hnx; clear hnx nx)
    | (with_reducible refine And.intro (by omega) ?_)
    | (with_reducible refine And.intro ?_ ?_)
    | (clear hnx nx; with_reducible apply hnx; clear hnx nx)
    | (clear hnx nx; clear hnx nx; with_reducible apply hnx; clear hnx nx))
  refine pcall_midl [_, (e, _)] [(w, _)] [(m, _)] rfl (clones_o G w s.wait hx) ?_
  intro c2 Hw hR
  have hR2 := hR
  rcases hR2 with ⟨hw0, rfl, hHw⟩ | ⟨N, hNw, rfl, hHw⟩
  · clear hHw
    refine Ev_in ?_
    repeat' (first
    | ((with_reducible refine WL_stopR ?_))
    | (with_reducible apply W_seq_k; intro nx hnx)
    | (with_reducible first | refine wr 2097213 ?_)
    | ((with_reducible first | (apply WL_op; intro nx hnx) | refine Ev_out ?_ | refine wc ?_ | (refine pf hnm fun nm hnm => ?_; try simp only [fmb] at hnm) | (refine pm hnm fun nm hnm => ?_; try simp only [fmb] at hnm)); try (simp (maxSteps := 2000000) (disch := omega) only [ev, ↓evp, PV.cells, PV.one, PV.mem?, Value.cells, simprocAttr, hnm, Try.tf0, Try.tf1, Try.tf2, Try.tf3, Try.tf4, Try.tf5, Try.tf28, Try.tf33, Try.tf35, Try.tf63, Try.tf65, Try.call44, hM, hh, List.map_nil]))
    | ((with_reducible first | apply W_block | apply W_scope | apply WL_nil | apply W_label | apply W_skip | apply W_exit | apply W_ret) <;> try simp only [kks, simprocAttr])
    | (with_reducible apply pg <;> (intro hc; (try simp only [hcb, simprocAttr, ne_eq, forall_const] at hc); first | (exfalso; omega) | exact absurd trivial hc | skip))
    | (with_reducible apply hnx; clear hnx nx)
    | (with_reducible refine And.intro (by omega) ?_)
    | (with_reducible refine And.intro ?_ ?_)
    | (clear hnx nx; with_reducible apply hnx; clear hnx nx)
    | (clear hnx nx; clear hnx nx; with_reducible apply hnx; clear hnx nx))
    unfold Stopped
    refine WL_range0 (m := m) (kt := 3) (vt := 33) (mt := 63) (es := 0) (tf_map Try.tf63 rfl) ?_ ?_ ?_
    · simp only [fr_getD_cons, Nat.reduceEqDiff, Nat.reduceLT, ↓reduceIte]
    · simp only [hM, hnm, look, hh, List.map_nil, ↓reduceIte, if_false]
    intro b rr clock hmb
    subst hmb
    simp only [del, hM, hnm, if_false, if_true]
    repeat' (first
    | (with_reducible apply W_seq_k; intro nx hnx)
    | (with_reducible first | refine wr 2097213 ?_)
    | ((with_reducible first | (apply WL_op; intro nx hnx) | refine Ev_out ?_ | refine wc ?_ | (refine pf hnm fun nm hnm => ?_; try simp only [fmb] at hnm) | (refine pm hnm fun nm hnm => ?_; try simp only [fmb] at hnm)); try (simp (maxSteps := 2000000) (disch := omega) only [ev, ↓evp, PV.cells, PV.one, PV.mem?, Value.cells, simprocAttr, hnm, Try.tf0, Try.tf1, Try.tf2, Try.tf3, Try.tf4, Try.tf5, Try.tf28, Try.tf33, Try.tf35, Try.tf63, Try.tf65, Try.call44, hM]))
    | ((with_reducible first | apply W_block | apply W_scope | apply WL_nil | apply W_label | apply W_skip | apply W_exit | apply W_ret) <;> try simp only [kks, simprocAttr])
    | (with_reducible apply pg <;> (intro hc; (try simp only [hcb, simprocAttr, ne_eq, forall_const] at hc); first | (exfalso; omega) | exact absurd trivial hc | skip))
    | (with_reducible apply hnx; clear hnx nx)
    | (with_reducible refine And.intro (by omega) ?_)
    | (with_reducible refine And.intro ?_ ?_)
    | (clear hnx nx; with_reducible apply hnx; clear hnx nx)
    | (clear hnx nx; clear hnx nx; with_reducible apply hnx; clear hnx nx))
    refine W_loop_x (fun z τ => z = 0 ∧ τ = _) 0 _ (Wx.refl _) ⟨rfl, rfl⟩ ?_
    rintro z τ ⟨rfl, rfl⟩ lp hlp
    clear hlp
    refine W_nd fun nd4 => ?_
    repeat' (first
    | ((with_reducible refine WL_stopN ?_))
    | (with_reducible apply W_seq_k; intro nx hnx)
    | (with_reducible first | refine wr 2097213 ?_)
    | ((with_reducible first | (apply WL_op; intro nx hnx) | refine Ev_out ?_ | refine wc ?_ | (refine pf hnm fun nm hnm => ?_; try simp only [fmb] at hnm) | (refine pm hnm fun nm hnm => ?_; try simp only [fmb] at hnm)); try (simp (maxSteps := 2000000) (disch := omega) only [ev, ↓evp, PV.cells, PV.one, PV.mem?, Value.cells, simprocAttr, hnm, Try.tf0, Try.tf1, Try.tf2, Try.tf3, Try.tf4, Try.tf5, Try.tf28, Try.tf33, Try.tf35, Try.tf63, Try.tf65, Try.call44, hM]))
    | ((with_reducible first | apply W_block | apply W_scope | apply WL_nil | apply W_label | apply W_skip | apply W_exit | apply W_ret) <;> try simp only [kks, simprocAttr])
    | (with_reducible apply pg <;> (intro hc; (try simp only [hcb, simprocAttr, ne_eq, forall_const] at hc); first | (exfalso; omega) | exact absurd trivial hc | skip))
    | (with_reducible apply hnx; clear hnx nx)
    | (with_reducible refine And.intro (by omega) ?_)
    | (with_reducible refine And.intro ?_ ?_)
    | (clear hnx nx; with_reducible apply hnx; clear hnx nx)
    | (clear hnx nx; clear hnx nx; with_reducible apply hnx; clear hnx nx))
    unfold Stopped
    simp only [prb, simprocAttr]
    refine WL_next0 (rr := rr) (es := #[]) ?_ ?_ ?_ ?_ ?_
    · simp only [fr_getD_cons, Nat.reduceEqDiff, Nat.reduceLT, ↓reduceIte]
    · intro x hx
      cases hx
    · exact Nat.le_refl _
    · simp [leftOf]
    refine WL_x (Wx_done0 (mt := 63)) ?_
    repeat' (first
    | (with_reducible apply W_seq_k; intro nx hnx)
    | (with_reducible first | refine wr 2097213 ?_)
    | ((with_reducible first | (apply WL_op; intro nx hnx) | refine Ev_out ?_ | refine wc ?_ | (refine pf hnm fun nm hnm => ?_; try simp only [fmb] at hnm) | (refine pm hnm fun nm hnm => ?_; try simp only [fmb] at hnm)); try (simp (maxSteps := 2000000) (disch := omega) only [ev, ↓evp, PV.cells, PV.one, PV.mem?, Value.cells, simprocAttr, hnm, Try.tf0, Try.tf1, Try.tf2, Try.tf3, Try.tf4, Try.tf5, Try.tf28, Try.tf33, Try.tf35, Try.tf63, Try.tf65, Try.call44, hM]))
    | ((with_reducible first | apply W_block | apply W_scope | apply WL_nil | apply W_label | apply W_skip | apply W_exit | apply W_ret) <;> try simp only [kks, simprocAttr])
    | (with_reducible apply pg <;> (intro hc; (try simp only [hcb, simprocAttr, ne_eq, forall_const] at hc); first | (exfalso; omega) | exact absurd trivial hc | skip))
    | (with_reducible apply hnx; clear hnx nx)
    | (with_reducible refine And.intro (by omega) ?_)
    | (with_reducible refine And.intro ?_ ?_)
    | (clear hnx nx; with_reducible apply hnx; clear hnx nx)
    | (clear hnx nx; clear hnx nx; with_reducible apply hnx; clear hnx nx))
    refine hfin _ _ (Fin_ret1 rfl (Sub_refl (by simpa [names] using (List.nodup_cons.1 nd4).2)) ⟨?e2a, ?m2a, _, Hw, ?q1a, hR, ?q2a⟩)
    case q2a =>
      rw [hh]
      rfl
    case q1a =>
      simp only [fr_getD_cons, Nat.reduceEqDiff, Nat.reduceLT, ↓reduceIte]
  · clear hHw
    refine Ev_in ?_
    repeat' (first
    | ((with_reducible refine WL_stopR ?_))
    | (with_reducible apply W_seq_k; intro nx hnx)
    | (with_reducible first | refine wr 2097213 ?_)
    | ((with_reducible first | (apply WL_op; intro nx hnx) | refine Ev_out ?_ | refine wc ?_ | (refine pf hnm fun nm hnm => ?_; try simp only [fmb] at hnm) | (refine pm hnm fun nm hnm => ?_; try simp only [fmb] at hnm)); try (simp (maxSteps := 2000000) (disch := omega) only [ev, ↓evp, PV.cells, PV.one, PV.mem?, Value.cells, simprocAttr, hnm, Try.tf0, Try.tf1, Try.tf2, Try.tf3, Try.tf4, Try.tf5, Try.tf28, Try.tf33, Try.tf35, Try.tf63, Try.tf65, Try.call44, hM, hh, List.map_nil]))
    | ((with_reducible first | apply W_block | apply W_scope | apply WL_nil | apply W_label | apply W_skip | apply W_exit | apply W_ret) <;> try simp only [kks, simprocAttr])
    | (with_reducible apply pg <;> (intro hc; (try simp only [hcb, simprocAttr, ne_eq, forall_const] at hc); first | (exfalso; omega) | exact absurd trivial hc | skip))
    | (with_reducible apply hnx; clear hnx nx)
    | (with_reducible refine And.intro (by omega) ?_)
    | (with_reducible refine And.intro ?_ ?_)
    | (clear hnx nx; with_reducible apply hnx; clear hnx nx)
    | (clear hnx nx; clear hnx nx; with_reducible apply hnx; clear hnx nx))
    unfold Stopped
    refine WL_range0 (m := m) (kt := 3) (vt := 33) (mt := 63) (es := 0) (tf_map Try.tf63 rfl) ?_ ?_ ?_
    · simp only [fr_getD_cons, Nat.reduceEqDiff, Nat.reduceLT, ↓reduceIte]
    · simp only [hM, hnm, look, hh, List.map_nil, ↓reduceIte, if_false]
    intro b rr clock hmb
    subst hmb
    simp only [del, hM, hnm, if_false, if_true]
    repeat' (first
    | (with_reducible apply W_seq_k; intro nx hnx)
    | (with_reducible first | refine wr 2097213 ?_)
    | ((with_reducible first | (apply WL_op; intro nx hnx) | refine Ev_out ?_ | refine wc ?_ | (refine pf hnm fun nm hnm => ?_; try simp only [fmb] at hnm) | (refine pm hnm fun nm hnm => ?_; try simp only [fmb] at hnm)); try (simp (maxSteps := 2000000) (disch := omega) only [ev, ↓evp, PV.cells, PV.one, PV.mem?, Value.cells, simprocAttr, hnm, Try.tf0, Try.tf1, Try.tf2, Try.tf3, Try.tf4, Try.tf5, Try.tf28, Try.tf33, Try.tf35, Try.tf63, Try.tf65, Try.call44, hM]))
    | ((with_reducible first | apply W_block | apply W_scope | apply WL_nil | apply W_label | apply W_skip | apply W_exit | apply W_ret) <;> try simp only [kks, simprocAttr])
    | (with_reducible apply pg <;> (intro hc; (try simp only [hcb, simprocAttr, ne_eq, forall_const] at hc); first | (exfalso; omega) | exact absurd trivial hc | skip))
    | (with_reducible apply hnx; clear hnx nx)
    | (with_reducible refine And.intro (by omega) ?_)
    | (with_reducible refine And.intro ?_ ?_)
    | (clear hnx nx; with_reducible apply hnx; clear hnx nx)
    | (clear hnx nx; clear hnx nx; with_reducible apply hnx; clear hnx nx))
    refine W_loop_x (fun z τ => z = 0 ∧ τ = _) 0 _ (Wx.refl _) ⟨rfl, rfl⟩ ?_
    rintro z τ ⟨rfl, rfl⟩ lp hlp
    clear hlp
    refine W_nd fun nd4 => ?_
    repeat' (first
    | ((with_reducible refine WL_stopN ?_))
    | (with_reducible apply W_seq_k; intro nx hnx)
    | (with_reducible first | refine wr 2097213 ?_)
    | ((with_reducible first | (apply WL_op; intro nx hnx) | refine Ev_out ?_ | refine wc ?_ | (refine pf hnm fun nm hnm => ?_; try simp only [fmb] at hnm) | (refine pm hnm fun nm hnm => ?_; try simp only [fmb] at hnm)); try (simp (maxSteps := 2000000) (disch := omega) only [ev, ↓evp, PV.cells, PV.one, PV.mem?, Value.cells, simprocAttr, hnm, Try.tf0, Try.tf1, Try.tf2, Try.tf3, Try.tf4, Try.tf5, Try.tf28, Try.tf33, Try.tf35, Try.tf63, Try.tf65, Try.call44, hM]))
    | ((with_reducible first | apply W_block | apply W_scope | apply WL_nil | apply W_label | apply W_skip | apply W_exit | apply W_ret) <;> try simp only [kks, simprocAttr])
    | (with_reducible apply pg <;> (intro hc; (try simp only [hcb, simprocAttr, ne_eq, forall_const] at hc); first | (exfalso; omega) | exact absurd trivial hc | skip))
    | (with_reducible apply hnx; clear hnx nx)
    | (with_reducible refine And.intro (by omega) ?_)
    | (with_reducible refine And.intro ?_ ?_)
    | (clear hnx nx; with_reducible apply hnx; clear hnx nx)
    | (clear hnx nx; clear hnx nx; with_reducible apply hnx; clear hnx nx))
    unfold Stopped
    simp only [prb, simprocAttr]
    refine WL_next0 (rr := rr) (es := #[]) ?_ ?_ ?_ ?_ ?_
    · simp only [fr_getD_cons, Nat.reduceEqDiff, Nat.reduceLT, ↓reduceIte]
    · intro x hx
      cases hx
    · exact Nat.le_refl _
    · simp [leftOf]
    refine WL_x (Wx_done0 (mt := 63)) ?_
    repeat' (first
    | (with_reducible apply W_seq_k; intro nx hnx)
    | (with_reducible first | refine wr 2097213 ?_)
    | ((with_reducible first | (apply WL_op; intro nx hnx) | refine Ev_out ?_ | refine wc ?_ | (refine pf hnm fun nm hnm => ?_; try simp only [fmb] at hnm) | (refine pm hnm fun nm hnm => ?_; try simp only [fmb] at hnm)); try (simp (maxSteps := 2000000) (disch := omega) only [ev, ↓evp, PV.cells, PV.one, PV.mem?, Value.cells, simprocAttr, hnm, Try.tf0, Try.tf1, Try.tf2, Try.tf3, Try.tf4, Try.tf5, Try.tf28, Try.tf33, Try.tf35, Try.tf63, Try.tf65, Try.call44, hM]))
    | ((with_reducible first | apply W_block | apply W_scope | apply WL_nil | apply W_label | apply W_skip | apply W_exit | apply W_ret) <;> try simp only [kks, simprocAttr])
    | (with_reducible apply pg <;> (intro hc; (try simp only [hcb, simprocAttr, ne_eq, forall_const] at hc); first | (exfalso; omega) | exact absurd trivial hc | skip))
    | (with_reducible apply hnx; clear hnx nx)
    | (with_reducible refine And.intro (by omega) ?_)
    | (with_reducible refine And.intro ?_ ?_)
    | (clear hnx nx; with_reducible apply hnx; clear hnx nx)
    | (clear hnx nx; clear hnx nx; with_reducible apply hnx; clear hnx nx))
    refine hfin _ _ (Fin_ret1 rfl (Sub_refl (by simpa [names] using (List.nodup_cons.1 nd4).2)) ⟨?e2b, ?m2b, _, Hw, ?q1b, hR, ?q2b⟩)
    case q2b =>
      rw [hh]
      rfl
    case q1b =>
      simp only [fr_getD_cons, Nat.reduceEqDiff, Nat.reduceLT, ↓reduceIte]
set_option maxRecDepth 100000 in
set_option maxHeartbeats 8000000 in
theorem copy_r1 (G : Globs) (e w m : Int) (s : LE) (hx : s.wait.length ≤ 4294900000) (x : Nat × List UInt8) (hh : s.held = [x]) :
    PCalls Try.prog G 31 [.ptr e 0] (endO e w m s) (CopyR e w m s) := by
  refine PCalls.nd fun nd => ?_
  have hM := end_nd nd
  have hmf : ∀ (k : Value) (i : Nat), mfind k [] i = some none := fun _ _ => rfl
  (refine PCalls_f Try.func31 rfl Try.ntmps31 Try.results31 (by simp) fun fin hfin => ?_; have hnm : True := trivial; simp only [ev, simprocAttr])
  repeat' (first
    | (with_reducible apply W_seq_k; intro nx hnx)
    | (with_reducible first | refine wr 2097213 ?_)
    | ((with_reducible first | (apply WL_op; intro nx hnx) | refine Ev_out ?_ | refine wc ?_ | (refine pf hnm fun nm hnm => ?_; try simp only [fmb] at hnm) | (refine pm hnm fun nm hnm => ?_; try simp only [fmb] at hnm)); try (simp (maxSteps := 2000000) (disch := omega) only [ev, ↓evp, PV.cells, PV.one, PV.mem?, Value.cells, simprocAttr, hnm, Try.tf0, Try.tf1, Try.tf2, Try.tf3, Try.tf4, Try.tf5, Try.tf28, Try.tf33, Try.tf35, Try.tf63, Try.tf65, Try.call44, hM]))
    | ((with_reducible first | apply W_block | apply W_scope | apply WL_nil | apply W_label | apply W_skip | apply W_exit | apply W_ret) <;> try simp only [kks, simprocAttr])
    | (with_reducible apply pg <;> (intro hc; (try simp only [hcb, simprocAttr, ne_eq, forall_const] at hc); first | (exfalso; omega) | exact absurd trivial hc | skip))
    | (with_reducible apply hnx; clear hnx nx)
    | (with_reducible refine And.intro (by omega) ?_)
    | (with_reducible refine And.intro ?_ ?_)
    | (clear hnx nx; with_reducible apply hnx; clear hnx nx)
    | (clear hnx nx; clear hnx nx; with_reducible apply hnx; clear hnx nx))
  refine pcall_midl [_, (e, _)] [(w, _)] [(m, _)] rfl (clones_o G w s.wait hx) ?_
  intro c2 Hw hR
  have hR2 := hR
  rcases hR2 with ⟨hw0, rfl, hHw⟩ | ⟨N, hNw, rfl, hHw⟩
  · have hY : True := trivial
    clear hHw
    obtain ⟨n1, hn1⟩ : ∃ n1, n1 = nm := ⟨nm, rfl⟩
    subst hn1
    refine Ev_in ?_
    repeat' (first
    | ((with_reducible refine WL_stopR ?_))
    | (with_reducible apply W_seq_k; intro nx hnx)
    | (with_reducible first | refine wr 2097213 ?_)
    | ((with_reducible first | (apply WL_op; intro nx hnx) | refine Ev_out ?_ | refine wc ?_ | (refine pf hnm fun nm hnm => ?_; try simp only [fmb] at hnm) | (refine pm hnm fun nm hnm => ?_; try simp only [fmb] at hnm)); try (simp (maxSteps := 2000000) (disch := omega) only [ev, ↓evp, PV.cells, PV.one, PV.mem?, Value.cells, simprocAttr, hnm, Try.tf0, Try.tf1, Try.tf2, Try.tf3, Try.tf4, Try.tf5, Try.tf28, Try.tf33, Try.tf35, Try.tf63, Try.tf65, Try.call44, hM, hh, List.map_nil, List.map_cons]))
    | ((with_reducible first | apply W_block | apply W_scope | apply WL_nil | apply W_label | apply W_skip | apply W_exit | apply W_ret) <;> try simp only [kks, simprocAttr])
    | (with_reducible apply pg <;> (intro hc; (try simp only [hcb, simprocAttr, ne_eq, forall_const] at hc); first | (exfalso; omega) | exact absurd trivial hc | skip))
    | (with_reducible apply hnx; clear hnx nx)
    | (with_reducible refine And.intro (by omega) ?_)
    | (with_reducible refine And.intro ?_ ?_)
    | (clear hnx nx; with_reducible apply hnx; clear hnx nx)
    | (clear hnx nx; clear hnx nx; with_reducible apply hnx; clear hnx nx))
    unfold Stopped
    refine WL_range1 (m := m) (kt := 3) (vt := 33) (mt := 63) (es := 0) (k := pint .i64 x.1) (v := pl x.2) (tf_map Try.tf63 rfl) ?_ ?_ ?_
    · simp only [fr_getD_cons, Nat.reduceEqDiff, Nat.reduceLT, ↓reduceIte]
    · simp only [hM, hnm, look, hh, List.map_nil, List.map_cons, ↓reduceIte, if_false]
    intro b rr clock en hmb hbc
    subst hmb
    simp only [del, hM, hnm, if_false, if_true]
    repeat' (first
    | (with_reducible apply W_seq_k; intro nx hnx)
    | (with_reducible first | refine wr 2097213 ?_)
    | ((with_reducible first | (apply WL_op; intro nx hnx) | refine Ev_out ?_ | refine wc ?_ | (refine pf hnm fun nm hnm => ?_; try simp only [fmb] at hnm) | (refine pm hnm fun nm hnm => ?_; try simp only [fmb] at hnm)); try (simp (maxSteps := 2000000) (disch := omega) only [ev, ↓evp, PV.cells, PV.one, PV.mem?, Value.cells, simprocAttr, hnm, Try.tf0, Try.tf1, Try.tf2, Try.tf3, Try.tf4, Try.tf5, Try.tf28, Try.tf33, Try.tf35, Try.tf63, Try.tf65, Try.call44, hM]))
    | ((with_reducible first | apply W_block | apply W_scope | apply WL_nil | apply W_label | apply W_skip | apply W_exit | apply W_ret) <;> try simp only [kks, simprocAttr])
    | (with_reducible apply pg <;> (intro hc; (try simp only [hcb, simprocAttr, ne_eq, forall_const] at hc); first | (exfalso; omega) | exact absurd trivial hc | skip))
    | (with_reducible apply hnx; clear hnx nx)
    | (with_reducible refine And.intro (by omega) ?_)
    | (with_reducible refine And.intro ?_ ?_)
    | (clear hnx nx; with_reducible apply hnx; clear hnx nx)
    | (clear hnx nx; clear hnx nx; with_reducible apply hnx; clear hnx nx))
    refine W_loop_x (fun z τ => (z = 1 ∧ τ = _) ∨ (z = 0 ∧ τ = ⟨fr 31 [(0, .ptr e 0), (3, .ptr n1 0), (21, itV rr)], ((rr : Int), letO (.mapIter (some b) clock #[en.born] clock) []) :: ((b : Int), letO (.map #[en] clock) [pint .i64 x.1, pl x.2]) :: (nm, ⟨63, false, 0, [.ent (pint .i64 x.1) (pl x.2)]⟩) ::
      (n1, ⟨65, false, 0, endCells s pnil nm⟩) :: (e, ⟨65, false, 0, endCells s (.row w 1 s.wait.length) b⟩) :: Hw⟩)) 1 _ (Wx.refl _) (.inl ⟨rfl, rfl⟩) ?_
    rintro z τ (⟨rfl, rfl⟩ | ⟨rfl, rfl⟩) lp hlp
    · refine W_nd fun nd4 => ?_
      have hRR : ((rr : Int) = n1) = False ∧ ((b : Int) = n1) = False ∧ ((rr : Int) = nm) = False ∧ ((b : Int) = nm) = False ∧ (nm = n1) = False := by
        simp only [names, List.map_cons, List.nodup_cons, List.mem_cons, not_or] at nd4
        exact ⟨eq_false nd4.1.2.2.1, eq_false nd4.2.1.2.1, eq_false nd4.1.2.1, eq_false nd4.2.1.1, eq_false nd4.2.2.1.1⟩
      repeat' (first
    | ((with_reducible refine WL_stopN ?_))
    | (with_reducible apply W_seq_k; intro nx hnx)
    | (with_reducible first | refine wr 2097213 ?_)
    | ((with_reducible first | (apply WL_op; intro nx hnx) | refine Ev_out ?_ | refine wc ?_ | (refine pf hnm fun nm hnm => ?_; try simp only [fmb] at hnm) | (refine pm hnm fun nm hnm => ?_; try simp only [fmb] at hnm)); try (simp (maxSteps := 2000000) (disch := omega) only [ev, ↓evp, PV.cells, PV.one, PV.mem?, Value.cells, simprocAttr, hnm, Try.tf0, Try.tf1, Try.tf2, Try.tf3, Try.tf4, Try.tf5, Try.tf28, Try.tf33, Try.tf35, Try.tf63, Try.tf65, Try.call44, hM]))
    | ((with_reducible first | apply W_block | apply W_scope | apply WL_nil | apply W_label | apply W_skip | apply W_exit | apply W_ret) <;> try simp only [kks, simprocAttr])
    | (with_reducible apply pg <;> (intro hc; (try simp only [hcb, simprocAttr, ne_eq, forall_const] at hc); first | (exfalso; omega) | exact absurd trivial hc | skip))
    | (with_reducible apply hnx; clear hnx nx)
    | (with_reducible refine And.intro (by omega) ?_)
    | (with_reducible refine And.intro ?_ ?_)
    | (clear hnx nx; with_reducible apply hnx; clear hnx nx)
    | (clear hnx nx; clear hnx nx; with_reducible apply hnx; clear hnx nx))
      unfold Stopped
      simp only [prb, simprocAttr]
      refine WL_next1 (rr := rr) ?_ hbc (Nat.le_refl _) ?_
      · simp only [fr_getD_cons, Nat.reduceEqDiff, Nat.reduceLT, ↓reduceIte]
      repeat' (first
    | ((with_reducible refine WL_stopE ?_))
    | (with_reducible apply W_seq_k; intro nx hnx)
    | (with_reducible first | refine wr 2097213 ?_)
    | ((with_reducible first | (apply WL_op; intro nx hnx) | refine Ev_out ?_ | refine wc ?_ | (refine pf hnm fun nm hnm => ?_; try simp only [fmb] at hnm) | (refine pm hnm fun nm hnm => ?_; try simp only [fmb] at hnm)); try (simp (maxSteps := 2000000) (disch := omega) only [ev, ↓evp, PV.cells, PV.one, PV.mem?, Value.cells, simprocAttr, hnm, Try.tf0, Try.tf1, Try.tf2, Try.tf3, Try.tf4, Try.tf5, Try.tf28, Try.tf33, Try.tf35, Try.tf63, Try.tf65, Try.call44, hM, hRR]))
    | ((with_reducible first | apply W_block | apply W_scope | apply WL_nil | apply W_label | apply W_skip | apply W_exit | apply W_ret) <;> try simp only [kks, simprocAttr])
    | (with_reducible apply pg <;> (intro hc; (try simp only [hcb, simprocAttr, ne_eq, forall_const] at hc); first | (exfalso; omega) | exact absurd trivial hc | skip))
    | (with_reducible apply hnx; clear hnx nx)
    | (with_reducible refine And.intro (by omega) ?_)
    | (with_reducible refine And.intro ?_ ?_)
    | (clear hnx nx; with_reducible apply hnx; clear hnx nx)
    | (clear hnx nx; clear hnx nx; with_reducible apply hnx; clear hnx nx))
      unfold Stopped
      simp only [prb, simprocAttr]
      refine WL_entry1 (rr := rr) ?_ ?_
      · simp only [fr_getD_cons, Nat.reduceEqDiff, Nat.reduceLT, ↓reduceIte]
      repeat' (first
    | (with_reducible apply W_seq_k; intro nx hnx)
    | (with_reducible first | refine wr 2097213 ?_)
    | ((with_reducible first | (apply WL_op; intro nx hnx) | refine Ev_out ?_ | refine wc ?_ | (refine pf hnm fun nm hnm => ?_; try simp only [fmb] at hnm) | (refine pm hnm fun nm hnm => ?_; try simp only [fmb] at hnm)); try (simp (maxSteps := 2000000) (disch := omega) only [ev, ↓evp, PV.cells, PV.one, PV.mem?, Value.cells, simprocAttr, hnm, Try.tf0, Try.tf1, Try.tf2, Try.tf3, Try.tf4, Try.tf5, Try.tf28, Try.tf33, Try.tf35, Try.tf63, Try.tf65, Try.call44, hM, hRR, hmf, List.nil_append]))
    | ((with_reducible first | apply W_block | apply W_scope | apply WL_nil | apply W_label | apply W_skip | apply W_exit | apply W_ret) <;> try simp only [kks, simprocAttr])
    | (with_reducible apply pg <;> (intro hc; (try simp only [hcb, simprocAttr, ne_eq, forall_const] at hc); first | (exfalso; omega) | exact absurd trivial hc | skip))
    | (with_reducible apply hnx; clear hnx nx)
    | (with_reducible refine And.intro (by omega) ?_)
    | (with_reducible refine And.intro ?_ ?_)
    | (clear hnx nx; with_reducible apply hnx; clear hnx nx)
    | (clear hnx nx; clear hnx nx; with_reducible apply hnx; clear hnx nx))
      refine hlp _ 0 _ (by omega) (Wx.of_wk ?_) (.inr ⟨rfl, rfl⟩)
      refine Wk_fr (by simp only [wkb, simprocAttr]) ?_
      exact Sub_refl (by simpa [names] using nd4)
    · clear hlp
      refine W_nd fun nd4 => ?_
      repeat' (first
    | ((with_reducible refine WL_stopN ?_))
    | (with_reducible apply W_seq_k; intro nx hnx)
    | (with_reducible first | refine wr 2097213 ?_)
    | ((with_reducible first | (apply WL_op; intro nx hnx) | refine Ev_out ?_ | refine wc ?_ | (refine pf hnm fun nm hnm => ?_; try simp only [fmb] at hnm) | (refine pm hnm fun nm hnm => ?_; try simp only [fmb] at hnm)); try (simp (maxSteps := 2000000) (disch := omega) only [ev, ↓evp, PV.cells, PV.one, PV.mem?, Value.cells, simprocAttr, hnm, Try.tf0, Try.tf1, Try.tf2, Try.tf3, Try.tf4, Try.tf5, Try.tf28, Try.tf33, Try.tf35, Try.tf63, Try.tf65, Try.call44, hM]))
    | ((with_reducible first | apply W_block | apply W_scope | apply WL_nil | apply W_label | apply W_skip | apply W_exit | apply W_ret) <;> try simp only [kks, simprocAttr])
    | (with_reducible apply pg <;> (intro hc; (try simp only [hcb, simprocAttr, ne_eq, forall_const] at hc); first | (exfalso; omega) | exact absurd trivial hc | skip))
    | (with_reducible apply hnx; clear hnx nx)
    | (with_reducible refine And.intro (by omega) ?_)
    | (with_reducible refine And.intro ?_ ?_)
    | (clear hnx nx; with_reducible apply hnx; clear hnx nx)
    | (clear hnx nx; clear hnx nx; with_reducible apply hnx; clear hnx nx))
      unfold Stopped
      simp only [prb, simprocAttr]
      refine WL_next0 (rr := rr) (es := #[en]) ?_ ?_ ?_ ?_ ?_
      · simp only [fr_getD_cons, Nat.reduceEqDiff, Nat.reduceLT, ↓reduceIte]
      · simpa using hbc
      · exact Nat.le_refl _
      · simp [leftOf]
      refine WL_x (Wx_done1 (mt := 63) hbc) ?_
      repeat' (first
    | (with_reducible apply W_seq_k; intro nx hnx)
    | (with_reducible first | refine wr 2097213 ?_)
    | ((with_reducible first | (apply WL_op; intro nx hnx) | refine Ev_out ?_ | refine wc ?_ | (refine pf hnm fun nm hnm => ?_; try simp only [fmb] at hnm) | (refine pm hnm fun nm hnm => ?_; try simp only [fmb] at hnm)); try (simp (maxSteps := 2000000) (disch := omega) only [ev, ↓evp, PV.cells, PV.one, PV.mem?, Value.cells, simprocAttr, hnm, Try.tf0, Try.tf1, Try.tf2, Try.tf3, Try.tf4, Try.tf5, Try.tf28, Try.tf33, Try.tf35, Try.tf63, Try.tf65, Try.call44, hM]))
    | ((with_reducible first | apply W_block | apply W_scope | apply WL_nil | apply W_label | apply W_skip | apply W_exit | apply W_ret) <;> try simp only [kks, simprocAttr])
    | (with_reducible apply pg <;> (intro hc; (try simp only [hcb, simprocAttr, ne_eq, forall_const] at hc); first | (exfalso; omega) | exact absurd trivial hc | skip))
    | (with_reducible apply hnx; clear hnx nx)
    | (with_reducible refine And.intro (by omega) ?_)
    | (with_reducible refine And.intro ?_ ?_)
    | (clear hnx nx; with_reducible apply hnx; clear hnx nx)
    | (clear hnx nx; clear hnx nx; with_reducible apply hnx; clear hnx nx))
      refine hfin _ _ (Fin_ret1 rfl (Sub_refl (by simpa [names] using (List.nodup_cons.1 nd4).2)) ⟨n1, nm, _, Hw, ?_, hR, ?_⟩)
      · simp only [fr_getD_cons, Nat.reduceEqDiff, Nat.reduceLT, ↓reduceIte]
      · rw [hh]
        rfl
  · have hY : True := trivial
    clear hHw
    obtain ⟨n1, hn1⟩ : ∃ n1, n1 = nm := ⟨nm, rfl⟩
    subst hn1
    refine Ev_in ?_
    repeat' (first
    | ((with_reducible refine WL_stopR ?_))
    | (with_reducible apply W_seq_k; intro nx hnx)
    | (with_reducible first | refine wr 2097213 ?_)
    | ((with_reducible first | (apply WL_op; intro nx hnx) | refine Ev_out ?_ | refine wc ?_ | (refine pf hnm fun nm hnm => ?_; try simp only [fmb] at hnm) | (refine pm hnm fun nm hnm => ?_; try simp only [fmb] at hnm)); try (simp (maxSteps := 2000000) (disch := omega) only [ev, ↓evp, PV.cells, PV.one, PV.mem?, Value.cells, simprocAttr, hnm, Try.tf0, Try.tf1, Try.tf2, Try.tf3, Try.tf4, Try.tf5, Try.tf28, Try.tf33, Try.tf35, Try.tf63, Try.tf65, Try.call44, hM, hh, List.map_nil, List.map_cons]))
    | ((with_reducible first | apply W_block | apply W_scope | apply WL_nil | apply W_label | apply W_skip | apply W_exit | apply W_ret) <;> try simp only [kks, simprocAttr])
    | (with_reducible apply pg <;> (intro hc; (try simp only [hcb, simprocAttr, ne_eq, forall_const] at hc); first | (exfalso; omega) | exact absurd trivial hc | skip))
    | (with_reducible apply hnx; clear hnx nx)
    | (with_reducible refine And.intro (by omega) ?_)
    | (with_reducible refine And.intro ?_ ?_)
    | (clear hnx nx; with_reducible apply hnx; clear hnx nx)
    | (clear hnx nx; clear hnx nx; with_reducible apply hnx; clear hnx nx))
    unfold Stopped
    refine WL_range1 (m := m) (kt := 3) (vt := 33) (mt := 63) (es := 0) (k := pint .i64 x.1) (v := pl x.2) (tf_map Try.tf63 rfl) ?_ ?_ ?_
    · simp only [fr_getD_cons, Nat.reduceEqDiff, Nat.reduceLT, ↓reduceIte]
    · simp only [hM, hnm, look, hh, List.map_nil, List.map_cons, ↓reduceIte, if_false]
    intro b rr clock en hmb hbc
    subst hmb
    simp only [del, hM, hnm, if_false, if_true]
    repeat' (first
    | (with_reducible apply W_seq_k; intro nx hnx)
    | (with_reducible first | refine wr 2097213 ?_)
    | ((with_reducible first | (apply WL_op; intro nx hnx) | refine Ev_out ?_ | refine wc ?_ | (refine pf hnm fun nm hnm => ?_; try simp only [fmb] at hnm) | (refine pm hnm fun nm hnm => ?_; try simp only [fmb] at hnm)); try (simp (maxSteps := 2000000) (disch := omega) only [ev, ↓evp, PV.cells, PV.one, PV.mem?, Value.cells, simprocAttr, hnm, Try.tf0, Try.tf1, Try.tf2, Try.tf3, Try.tf4, Try.tf5, Try.tf28, Try.tf33, Try.tf35, Try.tf63, Try.tf65, Try.call44, hM]))
    | ((with_reducible first | apply W_block | apply W_scope | apply WL_nil | apply W_label | apply W_skip | apply W_exit | apply W_ret) <;> try simp only [kks, simprocAttr])
    | (with_reducible apply pg <;> (intro hc; (try simp only [hcb, simprocAttr, ne_eq, forall_const] at hc); first | (exfalso; omega) | exact absurd trivial hc | skip))
    | (with_reducible apply hnx; clear hnx nx)
    | (with_reducible refine And.intro (by omega) ?_)
    | (with_reducible refine And.intro ?_ ?_)
    | (clear hnx nx; with_reducible apply hnx; clear hnx nx)
    | (clear hnx nx; clear hnx nx; with_reducible apply hnx; clear hnx nx))
    refine W_loop_x (fun z τ => (z = 1 ∧ τ = _) ∨ (z = 0 ∧ τ = ⟨fr 31 [(0, .ptr e 0), (3, .ptr n1 0), (21, itV rr)], ((rr : Int), letO (.mapIter (some b) clock #[en.born] clock) []) :: ((b : Int), letO (.map #[en] clock) [pint .i64 x.1, pl x.2]) :: (nm, ⟨63, false, 0, [.ent (pint .i64 x.1) (pl x.2)]⟩) ::
      (n1, ⟨65, false, 0, endCells s (.row N 1 s.wait.length) nm⟩) :: (e, ⟨65, false, 0, endCells s (.row w 1 s.wait.length) b⟩) :: Hw⟩)) 1 _ (Wx.refl _) (.inl ⟨rfl, rfl⟩) ?_
    rintro z τ (⟨rfl, rfl⟩ | ⟨rfl, rfl⟩) lp hlp
    · refine W_nd fun nd4 => ?_
      have hRR : ((rr : Int) = n1) = False ∧ ((b : Int) = n1) = False ∧ ((rr : Int) = nm) = False ∧ ((b : Int) = nm) = False ∧ (nm = n1) = False := by
        simp only [names, List.map_cons, List.nodup_cons, List.mem_cons, not_or] at nd4
        exact ⟨eq_false nd4.1.2.2.1, eq_false nd4.2.1.2.1, eq_false nd4.1.2.1, eq_false nd4.2.1.1, eq_false nd4.2.2.1.1⟩
      repeat' (first
    | ((with_reducible refine WL_stopN ?_))
    | (with_reducible apply W_seq_k; intro nx hnx)
    | (with_reducible first | refine wr 2097213 ?_)
    | ((with_reducible first | (apply WL_op; intro nx hnx) | refine Ev_out ?_ | refine wc ?_ | (refine pf hnm fun nm hnm => ?_; try simp only [fmb] at hnm) | (refine pm hnm fun nm hnm => ?_; try simp only [fmb] at hnm)); try (simp (maxSteps := 2000000) (disch := omega) only [ev, ↓evp, PV.cells, PV.one, PV.mem?, Value.cells, simprocAttr, hnm, Try.tf0, Try.tf1, Try.tf2, Try.tf3, Try.tf4, Try.tf5, Try.tf28, Try.tf33, Try.tf35, Try.tf63, Try.tf65, Try.call44, hM]))
    | ((with_reducible first | apply W_block | apply W_scope | apply WL_nil | apply W_label | apply W_skip | apply W_exit | apply W_ret) <;> try simp only [kks, simprocAttr])
    | (with_reducible apply pg <;> (intro hc; (try simp only [hcb, simprocAttr, ne_eq, forall_const] at hc); first | (exfalso; omega) | exact absurd trivial hc | skip))
    | (with_reducible apply hnx; clear hnx nx)
    | (with_reducible refine And.intro (by omega) ?_)
    | (with_reducible refine And.intro ?_ ?_)
    | (clear hnx nx; with_reducible apply hnx; clear hnx nx)
    | (clear hnx nx; clear hnx nx; with_reducible apply hnx; clear hnx nx))
      unfold Stopped
      simp only [prb, simprocAttr]
      refine WL_next1 (rr := rr) ?_ hbc (Nat.le_refl _) ?_
      · simp only [fr_getD_cons, Nat.reduceEqDiff, Nat.reduceLT, ↓reduceIte]
      repeat' (first
    | ((with_reducible refine WL_stopE ?_))
    | (with_reducible apply W_seq_k; intro nx hnx)
    | (with_reducible first | refine wr 2097213 ?_)
    | ((with_reducible first | (apply WL_op; intro nx hnx) | refine Ev_out ?_ | refine wc ?_ | (refine pf hnm fun nm hnm => ?_; try simp only [fmb] at hnm) | (refine pm hnm fun nm hnm => ?_; try simp only [fmb] at hnm)); try (simp (maxSteps := 2000000) (disch := omega) only [ev, ↓evp, PV.cells, PV.one, PV.mem?, Value.cells, simprocAttr, hnm, Try.tf0, Try.tf1, Try.tf2, Try.tf3, Try.tf4, Try.tf5, Try.tf28, Try.tf33, Try.tf35, Try.tf63, Try.tf65, Try.call44, hM, hRR]))
    | ((with_reducible first | apply W_block | apply W_scope | apply WL_nil | apply W_label | apply W_skip | apply W_exit | apply W_ret) <;> try simp only [kks, simprocAttr])
    | (with_reducible apply pg <;> (intro hc; (try simp only [hcb, simprocAttr, ne_eq, forall_const] at hc); first | (exfalso; omega) | exact absurd trivial hc | skip))
    | (with_reducible apply hnx; clear hnx nx)
    | (with_reducible refine And.intro (by omega) ?_)
    | (with_reducible refine And.intro ?_ ?_)
    | (clear hnx nx; with_reducible apply hnx; clear hnx nx)
    | (clear hnx nx; clear hnx nx; with_reducible apply hnx; clear hnx nx))
      unfold Stopped
      simp only [prb, simprocAttr]
      refine WL_entry1 (rr := rr) ?_ ?_
      · simp only [fr_getD_cons, Nat.reduceEqDiff, Nat.reduceLT, ↓reduceIte]
      repeat' (first
    | (with_reducible apply W_seq_k; intro nx hnx)
    | (with_reducible first | refine wr 2097213 ?_)
    | ((with_reducible first | (apply WL_op; intro nx hnx) | refine Ev_out ?_ | refine wc ?_ | (refine pf hnm fun nm hnm => ?_; try simp only [fmb] at hnm) | (refine pm hnm fun nm hnm => ?_; try simp only [fmb] at hnm)); try (simp (maxSteps := 2000000) (disch := omega) only [ev, ↓evp, PV.cells, PV.one, PV.mem?, Value.cells, simprocAttr, hnm, Try.tf0, Try.tf1, Try.tf2, Try.tf3, Try.tf4, Try.tf5, Try.tf28, Try.tf33, Try.tf35, Try.tf63, Try.tf65, Try.call44, hM, hRR, hmf, List.nil_append]))
    | ((with_reducible first | apply W_block | apply W_scope | apply WL_nil | apply W_label | apply W_skip | apply W_exit | apply W_ret) <;> try simp only [kks, simprocAttr])
    | (with_reducible apply pg <;> (intro hc; (try simp only [hcb, simprocAttr, ne_eq, forall_const] at hc); first | (exfalso; omega) | exact absurd trivial hc | skip))
    | (with_reducible apply hnx; clear hnx nx)
    | (with_reducible refine And.intro (by omega) ?_)
    | (with_reducible refine And.intro ?_ ?_)
    | (clear hnx nx; with_reducible apply hnx; clear hnx nx)
    | (clear hnx nx; clear hnx nx; with_reducible apply hnx; clear hnx nx))
      refine hlp _ 0 _ (by omega) (Wx.of_wk ?_) (.inr ⟨rfl, rfl⟩)
      refine Wk_fr (by simp only [wkb, simprocAttr]) ?_
      exact Sub_refl (by simpa [names] using nd4)
    · clear hlp
      refine W_nd fun nd4 => ?_
      repeat' (first
    | ((with_reducible refine WL_stopN ?_))
    | (with_reducible apply W_seq_k; intro nx hnx)
    | (with_reducible first | refine wr 2097213 ?_)
    | ((with_reducible first | (apply WL_op; intro nx hnx) | refine Ev_out ?_ | refine wc ?_ | (refine pf hnm fun nm hnm => ?_; try simp only [fmb] at hnm) | (refine pm hnm fun nm hnm => ?_; try simp only [fmb] at hnm)); try (simp (maxSteps := 2000000) (disch := omega) only [ev, ↓evp, PV.cells, PV.one, PV.mem?, Value.cells, simprocAttr, hnm, Try.tf0, Try.tf1, Try.tf2, Try.tf3, Try.tf4, Try.tf5, Try.tf28, Try.tf33, Try.tf35, Try.tf63, Try.tf65, Try.call44, hM]))
    | ((with_reducible first | apply W_block | apply W_scope | apply WL_nil | apply W_label | apply W_skip | apply W_exit | apply W_ret) <;> try simp only [kks, simprocAttr])
    | (with_reducible apply pg <;> (intro hc; (try simp only [hcb, simprocAttr, ne_eq, forall_const] at hc); first | (exfalso; omega) | exact absurd trivial hc | skip))
    | (with_reducible apply hnx; clear hnx nx)
    | (with_reducible refine And.intro (by omega) ?_)
    | (with_reducible refine And.intro ?_ ?_)
    | (clear hnx nx; with_reducible apply hnx; clear hnx nx)
    | (clear hnx nx; clear hnx nx; with_reducible apply hnx; clear hnx nx))
      unfold Stopped
      simp only [prb, simprocAttr]
      refine WL_next0 (rr := rr) (es := #[en]) ?_ ?_ ?_ ?_ ?_
      · simp only [fr_getD_cons, Nat.reduceEqDiff, Nat.reduceLT, ↓reduceIte]
      · simpa using hbc
      · exact Nat.le_refl _
      · simp [leftOf]
      refine WL_x (Wx_done1 (mt := 63) hbc) ?_
      repeat' (first
    | (with_reducible apply W_seq_k; intro nx hnx)
    | (with_reducible first | refine wr 2097213 ?_)
    | ((with_reducible first | (apply WL_op; intro nx hnx) | refine Ev_out ?_ | refine wc ?_ | (refine pf hnm fun nm hnm => ?_; try simp only [fmb] at hnm) | (refine pm hnm fun nm hnm => ?_; try simp only [fmb] at hnm)); try (simp (maxSteps := 2000000) (disch := omega) only [ev, ↓evp, PV.cells, PV.one, PV.mem?, Value.cells, simprocAttr, hnm, Try.tf0, Try.tf1, Try.tf2, Try.tf3, Try.tf4, Try.tf5, Try.tf28, Try.tf33, Try.tf35, Try.tf63, Try.tf65, Try.call44, hM]))
    | ((with_reducible first | apply W_block | apply W_scope | apply WL_nil | apply W_label | apply W_skip | apply W_exit | apply W_ret) <;> try simp only [kks, simprocAttr])
    | (with_reducible apply pg <;> (intro hc; (try simp only [hcb, simprocAttr, ne_eq, forall_const] at hc); first | (exfalso; omega) | exact absurd trivial hc | skip))
    | (with_reducible apply hnx; clear hnx nx)
    | (with_reducible refine And.intro (by omega) ?_)
    | (with_reducible refine And.intro ?_ ?_)
    | (clear hnx nx; with_reducible apply hnx; clear hnx nx)
    | (clear hnx nx; clear hnx nx; with_reducible apply hnx; clear hnx nx))
      refine hfin _ _ (Fin_ret1 rfl (Sub_refl (by simpa [names] using (List.nodup_cons.1 nd4).2)) ⟨n1, nm, _, Hw, ?_, hR, ?_⟩)
      · simp only [fr_getD_cons, Nat.reduceEqDiff, Nat.reduceLT, ↓reduceIte]
      · rw [hh]
        rfl
end Go.PM

namespace Go.PM
open Go.Proofs
theorem Wxs.nd {G : Globs} {I : List Int} {σ : PState} {T : PState → Prop} (h : (names σ.heap).Nodup → Wxs G I σ T) : Wxs G I σ T := fun E hE A a w hs => h hs.nodup E hE A a w hs
attribute [local irreducible] W PCalls pcall pcallI WL
theorem copy_c (G : Globs) (e w m : Int) (s : LE) (hx : s.wait.length ≤ 4294900000) (hh : s.held.length ≤ 1) :
    PCalls Try.prog G 31 [.ptr e 0] (endO e w m s) (fun res H => ∃ e2 w2 m2, res = .ptr e2 0 ∧ H = endO e2 w2 m2 s ++ endO e w m s) := by
  have h0 : PCalls Try.prog G 31 [.ptr e 0] (endO e w m s) (CopyR e w m s) := by
    match hq : s.held, hh with
    | [], _ => exact copy_r0 G e w m s hx hq
    | [x], _ => exact copy_r1 G e w m s hx x hq
  refine h0.wxs ?_
  rintro res H ⟨e2, m2, c2, Hw, rfl, (⟨hw0, rfl, rfl⟩ | ⟨N, _, rfl, rfl⟩), rfl⟩
  · refine Wxs.nd fun nd => ?_
    simp only [names, List.map_cons, List.map_nil, List.nodup_cons, List.mem_cons, List.not_mem_nil, or_false, not_or, List.nodup_nil, and_true, not_false_eq_true] at nd
    refine Wxs.adopt_c e2 2 33 1 (o := ⟨65, false, 0, endCells s pnil m2⟩) ?_ rfl fun w2 hw2 => ?_
    · simp only [look, eq_false nd.1.2.1, eq_false nd.2.1.1, if_false, if_true]
    · simp only [names, List.map_cons, List.map_nil, List.mem_cons, List.not_mem_nil, or_false, not_or] at hw2
      refine Wxs.of (τ := ⟨[.ptr e2 0], endO e2 w2 m2 s ++ endO e w m s⟩) (Wx.of_wk ⟨?_, ?_⟩) ⟨_, rfl, e2, w2, m2, rfl, rfl⟩
      · exact ⟨.inr rfl, trivial⟩
      · simp only [upd, eq_false nd.1.2.1, eq_false nd.2.1.1, if_false, if_true]
        refine ⟨?_, ?_⟩
        · intro x hx
          simp only [List.mem_append, List.mem_cons, List.not_mem_nil, or_false] at hx ⊢
          rcases hx with (rfl | rfl | rfl) | rfl | rfl | rfl
          · exact .inr (.inr (.inr (.inl (by simp [hw0, endCells]))))
          · exact .inl (by simp [hw0])
          · exact .inr (.inr (.inl rfl))
          · exact .inr (.inr (.inr (.inr (.inl rfl))))
          · exact .inr (.inr (.inr (.inr (.inr rfl))))
          · exact .inr (.inl rfl)
        · simp only [names, List.map_append, List.map_cons, List.map_nil, List.cons_append, List.nil_append, List.nodup_cons, List.mem_cons, List.not_mem_nil, or_false, not_or, List.nodup_nil, and_true, not_false_eq_true]
          grind
  · refine Wxs.nd fun nd => ?_
    simp only [names, List.map_cons, List.map_nil, List.nodup_cons, List.mem_cons, List.not_mem_nil, or_false, not_or, List.nodup_nil, and_true, not_false_eq_true] at nd
    refine Wxs.of (τ := ⟨[.ptr e2 0], endO e2 N m2 s ++ endO e w m s⟩) (Wx.of_wk ⟨?_, ?_⟩) ⟨_, rfl, e2, N, m2, rfl, rfl⟩
    · exact ⟨.inr rfl, trivial⟩
    · refine ⟨?_, ?_⟩
      · intro x hx
        simp only [List.mem_append, List.mem_cons, List.not_mem_nil, or_false] at hx ⊢
        rcases hx with (rfl | rfl | rfl) | rfl | rfl | rfl
        · exact .inr (.inr (.inl rfl))
        · exact .inr (.inr (.inr (.inr (.inl rfl))))
        · exact .inr (.inl rfl)
        · exact .inr (.inr (.inr (.inl rfl)))
        · exact .inr (.inr (.inr (.inr (.inr rfl))))
        · exact .inl rfl
      · simp only [names, List.map_append, List.map_cons, List.map_nil, List.cons_append, List.nil_append, List.nodup_cons, List.mem_cons, List.not_mem_nil, or_false, not_or, List.nodup_nil, and_true, not_false_eq_true]
        grind
end Go.PM

namespace Go.PM
open Go.Proofs
attribute [local irreducible] W PCalls pcall pcallI WL
set_option maxRecDepth 100000 in
set_option maxHeartbeats 8000000 in
theorem clone_o (G : Globs) (B : Int) (b : UInt8) :
    PCalls Try.prog G 32 [.row B 1 1] [(B, ⟨5, true, 1, [pbyte b]⟩)] (fun res H => ∃ N, (N = B) = False ∧ res = .row N 1 1 ∧ H = [(N, ⟨5, true, 1, [pbyte b]⟩), (B, ⟨5, true, 1, [pbyte b]⟩)]) := by
  (refine PCalls_f Try.func32 rfl Try.ntmps32 Try.results32 (by simp) fun fin hfin => ?_; have hnm : True := trivial; simp only [ev, simprocAttr])
  repeat' (first
    | (with_reducible apply W_seq_k; intro nx hnx)
    | (with_reducible first | refine wr 5 ?_)
    | ((with_reducible first | (apply WL_op; intro nx hnx) | refine Ev_out ?_ | refine wc ?_ | (refine pf hnm fun nm hnm => ?_; try simp only [fmb] at hnm) | (refine pm hnm fun nm hnm => ?_; try simp only [fmb] at hnm) | (refine pmaybe_k ?_; intro bn hbn)); try (simp (maxSteps := 2000000) (disch := omega) only [ev, ↓evp, PV.cells, PV.one, PV.mem?, Value.cells, simprocAttr, hnm, Try.tf0, Try.tf4, Try.tf5, Try.tf33]))
    | ((with_reducible first | apply W_block | apply W_scope | apply WL_nil | apply W_label | apply W_skip | apply W_exit | apply W_ret) <;> try simp only [kks, simprocAttr])
    | (with_reducible apply pg <;> (intro hc; (try simp only [hcb, simprocAttr, ne_eq, forall_const] at hc); first | (exfalso; omega) | exact absurd trivial hc | skip))
    | (with_reducible apply hnx; clear hnx nx)
    | (with_reducible refine And.intro (by omega) ?_)
    | (with_reducible refine And.intro ?_ ?_)
    | (clear hnx nx; with_reducible apply hnx; clear hnx nx)
    | (clear hnx nx; clear hnx nx; with_reducible apply hnx; clear hnx nx))
  · rw [hbn trivial] at hc
    exact Bool.noConfusion hc
  · refine hfin _ _ (Fin_ret1 rfl (H := [(nm, ⟨5, true, 1, [pbyte b]⟩), (B, ⟨5, true, 1, [pbyte b]⟩)]) ⟨by simp, by simp [names, hnm]⟩ ?_)
    simp only [cob, simprocAttr]
    exact ⟨nm, by simp [hnm], rfl, rfl⟩
set_option maxRecDepth 100000 in
set_option maxHeartbeats 8000000 in
/-- A message of one byte, in a row of one's own, is sent. -/
theorem send_o (G : Globs) (e w m B : Int) (s : LE) (b : UInt8) (hw : s.wait.length < 1000) :
    PCalls Try.prog G 11 [.ptr e 0, .row B 1 1] ((B, ⟨5, true, 1, [pbyte b]⟩) :: endO e w m s) (fun res H => ∃ w' N, (N = w) = False ∧ res = pint .i64 0 ∧ H = [(w', ⟨33, true, 1, s.wait.map pl ++ [.row N 1 1]⟩), (N, ⟨5, true, 1, [pbyte b]⟩), (B, ⟨5, true, 1, [pbyte b]⟩),
      (e, ⟨65, false, 0, endCells s (.row w' 1 (s.wait.length + 1)) m⟩), (m, ⟨63, false, 0, entsP s.held⟩)]) := by
  refine PCalls.nd fun nd => ?_
  have nd2 : (names (endO e w m s)).Nodup := (List.nodup_cons.1 nd).2
  have hM := end_nd nd2
  have hB : (B = e) = False ∧ (e = B) = False ∧ (B = w) = False ∧ (w = B) = False ∧ (B = m) = False ∧ (m = B) = False := by
    have h := (List.nodup_cons.1 nd).1
    simp only [names, List.map_cons, List.map_nil, List.mem_cons, List.not_mem_nil, or_false, not_or] at h
    exact ⟨eq_false h.1, eq_false fun k => h.1 k.symm, eq_false h.2.1, eq_false fun k => h.2.1 k.symm, eq_false h.2.2, eq_false fun k => h.2.2 k.symm⟩
  (refine PCalls_f Try.func11 rfl Try.ntmps11 Try.results11 (by simp) fun fin hfin => ?_; have hnm : True := trivial; simp only [ev, simprocAttr])
  repeat' (first
    | (with_reducible apply W_seq_k; intro nx hnx)
    | (with_reducible first | refine wr 19 ?_ | refine wd (id := 3) 19 2 (.op 0 true (.op 1 true (.op 5 true (.alt 2 false (.alt 3 false (.alt 4 false (.op 6 false (.op 7 false (.op 8 false (.op 9 true (.op 10 true (.op 11 false (.done))))))) (.alt 6 false (.alt 4 false (.op 7 false (.op 8 false (.op 9 true (.op 10 true (.op 11 false (.done)))))) (.alt 7 false (.alt 4 false (.op 8 false (.op 9 true (.op 10 true (.op 11 false (.done))))) .stop) .stop)) .stop)) (.alt 6 false (.alt 3 false (.alt 4 false (.op 7 false (.op 8 false (.op 9 true (.op 10 true (.op 11 false (.done)))))) (.alt 7 false (.alt 4 false (.op 8 false (.op 9 true (.op 10 true (.op 11 false (.done))))) .stop) .stop)) (.alt 7 false (.alt 3 false (.alt 4 false (.op 8 false (.op 9 true (.op 10 true (.op 11 false (.done))))) .stop) .stop) .stop)) .stop)) (.alt 6 false (.alt 2 false (.alt 3 false (.alt 4 false (.op 7 false (.op 8 false (.op 9 true (.op 10 true (.op 11 false (.done)))))) (.alt 7 false (.alt 4 false (.op 8 false (.op 9 true (.op 10 true (.op 11 false (.done))))) .stop) .stop)) (.alt 7 false (.alt 3 false (.alt 4 false (.op 8 false (.op 9 true (.op 10 true (.op 11 false (.done))))) .stop) .stop) .stop)) (.alt 7 false (.alt 2 false (.alt 3 false (.alt 4 false (.op 8 false (.op 9 true (.op 10 true (.op 11 false (.done))))) .stop) .stop) .stop) .stop)) .stop))))) (by kernel_rfl) ?_)
    | ((with_reducible first | (apply WL_op; intro nx hnx) | refine Ev_out ?_ | refine wc ?_ | (apply popsD_op; intro nx hnx) | (refine popsD_alt ?_ ?_; intro nx hnx) | (refine pf hnm fun nm hnm => ?_; try simp only [fmb] at hnm) | (refine pm hnm fun nm hnm => ?_; try simp only [fmb] at hnm)); try (simp (maxSteps := 2000000) (disch := omega) only [ev, ↓evp, PV.cells, PV.one, PV.mem?, Value.cells, simprocAttr, hnm, Try.tf0, Try.tf1, Try.tf2, Try.tf3, Try.tf4, Try.tf5, Try.tf28, Try.tf33, Try.tf34, Try.tf35, Try.tf65, Try.call32, hM, hB]))
    | ((with_reducible first | apply W_block | apply W_scope | apply WL_nil | apply W_label | apply W_skip | apply W_exit | apply W_ret | apply popsD_done | exact popsD_stop) <;> try simp only [kks, simprocAttr])
    | (with_reducible apply pg <;> (intro hc; (try simp only [hcb, simprocAttr, ne_eq, forall_const] at hc); first | (exfalso; omega) | exact absurd trivial hc | skip))
    | (with_reducible apply hnx; clear hnx nx)
    | (with_reducible refine And.intro (by omega) ?_)
    | (with_reducible refine And.intro ?_ ?_)
    | (clear hnx nx; with_reducible apply hnx; clear hnx nx)
    | (clear hnx nx; clear hnx nx; with_reducible apply hnx; clear hnx nx))
  all_goals first
    | exact absurd trivial hc
    | (exfalso
       omega)
    | skip
  all_goals
    refine pcall_midn [] [(B, ⟨5, true, 1, [pbyte b]⟩)] (endO e w m s) rfl (clone_o G B b) ?_
    rintro _ _ ⟨N, hNB, rfl, rfl⟩ nd3
    have hN : (N = e) = False ∧ (e = N) = False ∧ (N = w) = False ∧ (w = N) = False ∧ (N = m) = False ∧ (m = N) = False ∧ (B = N) = False := by
      have h := (List.nodup_cons.1 nd3).1
      simp only [names, List.append_eq, List.map_cons, List.map_nil, List.mem_cons, List.not_mem_nil, or_false, not_or, List.cons_append, List.nil_append] at h
      exact ⟨eq_false h.2.1, eq_false fun k => h.2.1 k.symm, eq_false h.2.2.1, eq_false fun k => h.2.2.1 k.symm, eq_false h.2.2.2, eq_false fun k => h.2.2.2 k.symm, eq_false fun k => h.1 k.symm⟩
    refine Ev_in ?_
    repeat' (first
    | (with_reducible apply W_seq_k; intro nx hnx)
    | (with_reducible first | refine wr 19 ?_ | refine wd (id := 3) 19 2 (.op 0 true (.op 1 true (.op 5 true (.alt 2 false (.alt 3 false (.alt 4 false (.op 6 false (.op 7 false (.op 8 false (.op 9 true (.op 10 true (.op 11 false (.done))))))) (.alt 6 false (.alt 4 false (.op 7 false (.op 8 false (.op 9 true (.op 10 true (.op 11 false (.done)))))) (.alt 7 false (.alt 4 false (.op 8 false (.op 9 true (.op 10 true (.op 11 false (.done))))) .stop) .stop)) .stop)) (.alt 6 false (.alt 3 false (.alt 4 false (.op 7 false (.op 8 false (.op 9 true (.op 10 true (.op 11 false (.done)))))) (.alt 7 false (.alt 4 false (.op 8 false (.op 9 true (.op 10 true (.op 11 false (.done))))) .stop) .stop)) (.alt 7 false (.alt 3 false (.alt 4 false (.op 8 false (.op 9 true (.op 10 true (.op 11 false (.done))))) .stop) .stop) .stop)) .stop)) (.alt 6 false (.alt 2 false (.alt 3 false (.alt 4 false (.op 7 false (.op 8 false (.op 9 true (.op 10 true (.op 11 false (.done)))))) (.alt 7 false (.alt 4 false (.op 8 false (.op 9 true (.op 10 true (.op 11 false (.done))))) .stop) .stop)) (.alt 7 false (.alt 3 false (.alt 4 false (.op 8 false (.op 9 true (.op 10 true (.op 11 false (.done))))) .stop) .stop) .stop)) (.alt 7 false (.alt 2 false (.alt 3 false (.alt 4 false (.op 8 false (.op 9 true (.op 10 true (.op 11 false (.done))))) .stop) .stop) .stop) .stop)) .stop))))) (by kernel_rfl) ?_)
    | ((with_reducible first | (apply WL_op; intro nx hnx) | refine Ev_out ?_ | refine wc ?_ | (apply popsD_op; intro nx hnx) | (refine popsD_alt ?_ ?_; intro nx hnx) | (refine pf hnm fun nm hnm => ?_; try simp only [fmb] at hnm) | (refine pm hnm fun nm hnm => ?_; try simp only [fmb] at hnm)); try (simp (maxSteps := 2000000) (disch := omega) only [ev, ↓evp, PV.cells, PV.one, PV.mem?, Value.cells, simprocAttr, hnm, Try.tf0, Try.tf1, Try.tf2, Try.tf3, Try.tf4, Try.tf5, Try.tf28, Try.tf33, Try.tf34, Try.tf35, Try.tf65, Try.call32, hM, hB, hN, hNB]))
    | ((with_reducible first | apply W_block | apply W_scope | apply WL_nil | apply W_label | apply W_skip | apply W_exit | apply W_ret | apply popsD_done | exact popsD_stop) <;> try simp only [kks, simprocAttr])
    | (with_reducible apply pg <;> (intro hc; (try simp only [hcb, simprocAttr, ne_eq, forall_const] at hc); first | (exfalso; omega) | exact absurd trivial hc | skip))
    | (with_reducible apply hnx; clear hnx nx)
    | (with_reducible refine And.intro (by omega) ?_)
    | (with_reducible refine And.intro ?_ ?_)
    | (clear hnx nx; with_reducible apply hnx; clear hnx nx)
    | (clear hnx nx; clear hnx nx; with_reducible apply hnx; clear hnx nx))
    all_goals first
      | exact absurd trivial hc
      | (exfalso
         omega)
      | skip
  all_goals
    refine hfin _ _ (Fin_ret1 rfl (H := [(nm, ⟨33, true, 1, s.wait.map pl ++ [.row N 1 1]⟩), (N, ⟨5, true, 1, [pbyte b]⟩), (B, ⟨5, true, 1, [pbyte b]⟩), (e, ⟨65, false, 0, endCells s (.row nm 1 (s.wait.length + 1)) m⟩), (m, ⟨63, false, 0, entsP s.held⟩)]) ⟨?_, ?_⟩ ⟨nm, N, hN.2.2.1, ?_, rfl⟩)
    · intro x hx
      simp only [List.mem_cons, List.not_mem_nil, or_false] at hx ⊢
      rcases hx with rfl | rfl | rfl | rfl | rfl
      · exact .inl rfl
      · exact .inr (.inr (.inl rfl))
      · exact .inr (.inr (.inr (.inl rfl)))
      · exact .inr (.inr (.inr (.inr (.inl rfl))))
      · exact .inr (.inr (.inr (.inr (.inr rfl))))
    · simp [names, hnm, hM, hB, hN, hNB]
    · simp only [fr_getD_cons, Nat.reduceEqDiff, Nat.reduceLT, ↓reduceIte]
/-- The row that lies in the end becomes a list. -/
theorem send_frz {G : Globs} {I : List Int} {e w m B N : Int} {s : LE} {b : UInt8} (nd : (names ([(w, ⟨33, true, 1, s.wait.map pl ++ [.row N 1 1]⟩), (N, ⟨5, true, 1, [pbyte b]⟩), (B, ⟨5, true, 1, [pbyte b]⟩), (e, ⟨65, false, 0, endCells s (.row w 1 (s.wait.length + 1)) m⟩), (m, ⟨63, false, 0, entsP s.held⟩)] : Heap)).Nodup) (hN : N ∉ I) :
    Wx G I ⟨[pint .i64 0], [(w, ⟨33, true, 1, s.wait.map pl ++ [.row N 1 1]⟩), (N, ⟨5, true, 1, [pbyte b]⟩), (B, ⟨5, true, 1, [pbyte b]⟩), (e, ⟨65, false, 0, endCells s (.row w 1 (s.wait.length + 1)) m⟩), (m, ⟨63, false, 0, entsP s.held⟩)]⟩
      ⟨[pint .i64 0], [(w, ⟨33, true, 1, s.wait.map pl ++ [pl [b]]⟩), (B, ⟨5, true, 1, [pbyte b]⟩), (e, ⟨65, false, 0, endCells s (.row w 1 (s.wait.length + 1)) m⟩), (m, ⟨63, false, 0, entsP s.held⟩)]⟩ := by
  simp only [names, List.map_cons, List.map_nil, List.nodup_cons, List.mem_cons, List.not_mem_nil, or_false, not_or, List.nodup_nil, and_true, not_false_eq_true] at nd
  have n1 : (w = N) = False := eq_false nd.1.1
  have n2 : (B = N) = False := eq_false fun h => nd.2.1.1 h.symm
  have n3 : (e = N) = False := eq_false fun h => nd.2.1.2.1 h.symm
  have n4 : (m = N) = False := eq_false fun h => nd.2.1.2.2 h.symm
  have hpl : ∀ x : List UInt8, frz1 N [pbyte b] (pl x) = pl x := fun x => rfl
  have hw : (s.wait.map pl).map (frz1 N [pbyte b]) = s.wait.map pl := by
    rw [List.map_map]
    exact List.map_congr_left fun x _ => hpl x
  have hen : ∀ x ∈ entsP s.held, frz1 N [pbyte b] x = x := fun x hx => by
    obtain ⟨y, _, rfl⟩ := List.mem_map.1 hx
    rfl
  have hm : (entsP s.held).map (frz1 N [pbyte b]) = entsP s.held := by
    conv => rhs; rw [← List.map_id (entsP s.held)]
    exact List.map_congr_left fun x hx => hen x hx
  have h := Wx.freeze (G := G) (I := I) (σ := ⟨[pint .i64 0], [(w, ⟨33, true, 1, s.wait.map pl ++ [.row N 1 1]⟩), (N, ⟨5, true, 1, [pbyte b]⟩), (B, ⟨5, true, 1, [pbyte b]⟩), (e, ⟨65, false, 0, endCells s (.row w 1 (s.wait.length + 1)) m⟩), (m, ⟨63, false, 0, entsP s.held⟩)]⟩)
    (n := N) (o := ⟨5, true, 1, [pbyte b]⟩) hN (by simp [look, n1]) ?_
  · simp [frz, frz1, frzH, del, n1, n2, n3, n4, hw, hm, elemsOf, endCells] at h
    exact h
  · intro x hx u hu
    simp only [del, n1, if_false, if_true, List.mem_cons, List.not_mem_nil, or_false] at hx
    rcases hx with rfl | rfl | rfl | rfl
    · simp only [List.mem_append, List.mem_map, List.mem_cons, List.not_mem_nil, or_false] at hu
      rcases hu with ⟨y, _, rfl⟩ | rfl
      · rfl
      · simp [frz1, PV.one]
    · simp only [List.mem_cons, List.not_mem_nil, or_false] at hu
      rw [hu]
      rfl
    · simp only [endCells, List.mem_cons, List.not_mem_nil, or_false] at hu
      rcases hu with rfl | rfl | rfl | rfl | rfl | rfl | rfl | rfl <;> simp [frz1, n1, PV.one, Value.oneCell']
    · rw [hen u hu]
      obtain ⟨y, _, rfl⟩ := List.mem_map.1 hu
      rfl
theorem send_t (G : Globs) (e w m B : Int) (s : LE) (b : UInt8) (hw : s.wait.length < 1000) :
    PCalls Try.prog G 11 [.ptr e 0, .row B 1 1] ((B, ⟨5, true, 1, [pbyte b]⟩) :: endO e w m s) (fun res H => res = pint .i64 0 ∧ ∃ w', H = (B, ⟨5, true, 1, [pbyte b]⟩) :: endO e w' m { s with wait := s.wait ++ [[b]] }) := by
  refine (send_o G e w m B s b hw).wxs ?_
  rintro res H ⟨w', N, hNw, rfl, rfl⟩
  refine Wxs.nd fun nd => ?_
  have nd2 := nd
  simp only [names, List.map_cons, List.map_nil, List.nodup_cons, List.mem_cons, List.not_mem_nil, or_false, not_or, List.nodup_nil, and_true, not_false_eq_true] at nd2
  have hI : N ∉ names ((B, (⟨5, true, 1, [pbyte b]⟩ : PObj)) :: endO e w m s) := by
    simp only [names, List.map_cons, List.map_nil, List.mem_cons, List.not_mem_nil, or_false, not_or]
    exact ⟨nd2.2.1.1, nd2.2.1.2.1, of_eq_false hNw, nd2.2.1.2.2⟩
  refine Wxs.wx (send_frz nd hI) (Wxs.of (τ := ⟨[pint .i64 0], (B, ⟨5, true, 1, [pbyte b]⟩) :: endO e w' m { s with wait := s.wait ++ [[b]] }⟩) (Wx.of_wk ⟨?_, ?_⟩) ⟨_, rfl, rfl, w', rfl⟩)
  · exact ⟨.inr rfl, trivial⟩
  · refine ⟨?_, ?_⟩
    · intro x hx
      simp only [List.mem_cons, List.not_mem_nil, or_false] at hx ⊢
      rcases hx with rfl | rfl | rfl | rfl
      · exact .inr (.inl rfl)
      · exact .inr (.inr (.inl (by simp [endCells])))
      · exact .inl (by simp)
      · exact .inr (.inr (.inr rfl))
    · simp only [names, List.map_cons, List.map_nil, List.nodup_cons, List.mem_cons, List.not_mem_nil, or_false, not_or, List.nodup_nil, and_true, not_false_eq_true]
      grind
end Go.PM

namespace Go.PM
open Go.Proofs
theorem tab_nodup {nm N e w m : Int} {L : List Int} (h1 : (e :: w :: m :: L).Nodup) (h2 : N ∉ e :: w :: m :: L) (h3 : nm ∉ N :: e :: w :: m :: L) : (nm :: e :: w :: m :: N :: L).Nodup := by
  have h4 : (nm :: N :: e :: w :: m :: L).Nodup := List.nodup_cons.2 ⟨h3, List.nodup_cons.2 ⟨h2, h1⟩⟩
  refine (List.Perm.nodup_iff (List.Perm.cons nm ?_)).1 h4
  exact (List.perm_middle (l₁ := [e, w, m]) (a := N) (l₂ := L)).symm
/-- A table's places. -/
@[reducible] def tblC (nms : Nat → Int) (f : Nat → List UInt8) (i : Nat) : List PV := tab i fun j => .row (nms j) 1 (f j).length
theorem tblC_more (nms : Nat → Int) (f : Nat → List UInt8) (i : Nat) (N : Int) : tblC nms f i ++ [.row N 1 (f i).length] = tblC (fun j => if j = i then N else nms j) f (i + 1) := by
  have h := tab_push i fun j => PV.row (if j = i then N else nms j) 1 (f j).length
  simp only [if_true] at h
  rw [tab_congr (g := fun j => PV.row (nms j) 1 (f j).length) fun j hj => by simp only [if_neg (show ¬ j = i by omega)]] at h
  exact h
theorem rowsH_more (nms : Nat → Int) (c : Nat → List PV) (i : Nat) (N : Int) (ty : Nat) : rowsH ty (fun j => if j = i then N else nms j) c (i + 1) = (N, ⟨ty, true, 1, c i⟩) :: rowsH ty nms c i := by
  rw [rowsH_succ]
  simp only [if_true]
  rw [rowsH_congr (nms' := nms) (cont' := c) fun j hj => ⟨by simp only [if_neg (show ¬ j = i by omega)], rfl⟩]
attribute [local irreducible] W PCalls pcall pcallI WL
set_option maxRecDepth 100000 in
set_option maxHeartbeats 8000000 in
theorem Seal_r (G : Globs) (key : UInt64) (b : List UInt8) (hb : b.length ≤ 4294900000) : PCalls Try.prog G 24 [pq key, pl b] [] (RowB (b ++ sealB key b)) := by
  have hl := sealB_len key b
  have ho := all_one_b (sealB key b)
  have c1 := seal_c G key b (by omega)
  have c2 := concat_r G [b, sealB key b] (by simp) (by simp [lenS, hl]; omega)
  simp only [List.map_cons, List.map_nil, List.flatten_cons, List.flatten_nil, List.append_nil] at c2
  have c2 : PCalls Try.prog G 42 [.list 1 [pl b, pl (sealB key b)]] [] (RowB (b ++ sealB key b)) := by
    refine c2.mono ?_
    rintro res H (⟨h, _⟩ | h)
    · have := congrArg List.length h
      simp [hl] at this
    · exact h
  generalize sealB key b = s at *
  obtain ⟨z, hz⟩ : ∃ z, z = b ++ s := ⟨_, rfl⟩
  rw [← hz] at c2 ⊢
  clear hz
  (refine PCalls_f Try.func24 rfl Try.ntmps24 Try.results24 (by simp) fun fin hfin => ?_; have hnm : True := trivial; simp only [ev, Nat.reduceAdd, Nat.reduceMul, Nat.reduceSub, Nat.reduceLeDiff, Nat.reduceEqDiff, ↓reduceIte, reduceCtorEq, Nat.reduceLT, Nat.reducePow, Nat.reduceDiv, Nat.reduceMod, Nat.reduceBEq, Int.reduceLT, Int.reduceLE, Int.reduceToNat, Int.reduceAdd, Int.reduceSub, Int.reduceNeg])
  with_reducible apply W_seq_k
  intro nx hnx
  repeat' (first
    | (with_reducible first | refine wr 51 ?_)
    | ((with_reducible first | (apply WL_op; intro nx hnx) | refine Ev_out ?_ | refine wc ?_ | (refine pf hnm fun nm hnm => ?_; try simp only [fmb] at hnm) | (refine pm hnm fun nm hnm => ?_; try simp only [fmb] at hnm)); try (simp (maxSteps := 2000000) (disch := omega) only [ev, ↓evp, PV.cells, PV.one, PV.mem?, Value.cells, Nat.reduceAdd, Nat.reduceMul, Nat.reduceSub, Nat.reduceLeDiff, Nat.reduceEqDiff, ↓reduceIte, reduceCtorEq, Nat.reduceLT, Nat.reducePow, Nat.reduceDiv, Nat.reduceMod, Nat.reduceBEq, Int.reduceLT, Int.reduceLE, Int.reduceToNat, Int.reduceAdd, Int.reduceSub, Int.reduceNeg, hnm, Try.tf0, Try.tf2, Try.tf5, Try.tf22, Try.tf28, Try.tf33, Try.tf79, Try.call41, Try.call42]))
    | ((with_reducible first | apply W_block | apply W_scope | apply WL_nil | apply W_label | apply W_skip | apply W_exit | apply W_ret) <;> try simp only [kks, Nat.reduceAdd, Nat.reduceMul, Nat.reduceSub, Nat.reduceLeDiff, Nat.reduceEqDiff, ↓reduceIte, reduceCtorEq, Nat.reduceLT, Nat.reducePow, Nat.reduceDiv, Nat.reduceMod, Nat.reduceBEq, Int.reduceLT, Int.reduceLE, Int.reduceToNat, Int.reduceAdd, Int.reduceSub, Int.reduceNeg])
    | (with_reducible apply hnx; clear hnx nx)
    | (with_reducible refine And.intro (by omega) ?_)
    | (with_reducible refine And.intro ?_ ?_)
    | (clear hnx nx; with_reducible apply hnx; clear hnx nx)
    | (clear hnx nx; clear hnx nx; with_reducible apply hnx; clear hnx nx))
  with_reducible apply W_seq_k
  intro nx hnx
  repeat' (first
    | (with_reducible first | refine wr 51 ?_)
    | ((with_reducible first | (apply WL_op; intro nx hnx) | refine Ev_out ?_ | refine wc ?_ | (refine pf hnm fun nm hnm => ?_; try simp only [fmb] at hnm) | (refine pm hnm fun nm hnm => ?_; try simp only [fmb] at hnm)); try (simp (maxSteps := 2000000) (disch := omega) only [ev, ↓evp, PV.cells, PV.one, PV.mem?, Value.cells, Nat.reduceAdd, Nat.reduceMul, Nat.reduceSub, Nat.reduceLeDiff, Nat.reduceEqDiff, ↓reduceIte, reduceCtorEq, Nat.reduceLT, Nat.reducePow, Nat.reduceDiv, Nat.reduceMod, Nat.reduceBEq, Int.reduceLT, Int.reduceLE, Int.reduceToNat, Int.reduceAdd, Int.reduceSub, Int.reduceNeg, hnm, Try.tf0, Try.tf2, Try.tf5, Try.tf22, Try.tf28, Try.tf33, Try.tf79, Try.call41, Try.call42, hl, ho, List.length_map]))
    | ((with_reducible first | apply W_block | apply W_scope | apply WL_nil | apply W_label | apply W_skip | apply W_exit | apply W_ret) <;> try simp only [kks, Nat.reduceAdd, Nat.reduceMul, Nat.reduceSub, Nat.reduceLeDiff, Nat.reduceEqDiff, ↓reduceIte, reduceCtorEq, Nat.reduceLT, Nat.reducePow, Nat.reduceDiv, Nat.reduceMod, Nat.reduceBEq, Int.reduceLT, Int.reduceLE, Int.reduceToNat, Int.reduceAdd, Int.reduceSub, Int.reduceNeg])
    | (with_reducible apply hnx; clear hnx nx)
    | (with_reducible refine And.intro (by omega) ?_)
    | (with_reducible refine And.intro ?_ ?_)
    | (with_reducible refine pe (c1) ?_)
    | (clear hnx nx; with_reducible apply hnx; clear hnx nx)
    | (clear hnx nx; clear hnx nx; with_reducible apply hnx; clear hnx nx))
  refine W_wk (τ := ⟨fr 13 [(5, .ptr nm 0), (1, pl b)], [(nm, ⟨79, false, 0, s.map pbyte⟩)]⟩) (by
    refine Wk_fr (by simp only [wkb, Nat.reduceAdd, Nat.reduceMul, Nat.reduceSub, Nat.reduceLeDiff, Nat.reduceEqDiff, ↓reduceIte, reduceCtorEq, Nat.reduceLT, Nat.reducePow, Nat.reduceDiv, Nat.reduceMod, Nat.reduceBEq, Int.reduceLT, Int.reduceLE, Int.reduceToNat, Int.reduceAdd, Int.reduceSub, Int.reduceNeg]) ?_
    exact ⟨by simp, by simp [names]⟩) ?_
  refine W_x (τ := ⟨fr 13 [(5, .iptr (s.map pbyte) 0), (1, pl b)], []⟩) (freeze_arr (by simp) (by simp [frz, frz1])) ?_
  have ht : List.take 8 (s.map pbyte) = s.map pbyte := List.take_of_length_le (by simp [hl])
  repeat' (first
    | (with_reducible apply W_seq_k; intro nx hnx)
    | (with_reducible first | refine wr 51 ?_)
    | (with_reducible refine WL_born (by simp) rfl (by simp) ?_; simp only [elemsOf, nl, bir, Nat.reduceAdd, Nat.reduceMul, Nat.reduceSub, Nat.reduceLeDiff, Nat.reduceEqDiff, ↓reduceIte, reduceCtorEq, Nat.reduceLT, Nat.reducePow, Nat.reduceDiv, Nat.reduceMod, Nat.reduceBEq, Int.reduceLT, Int.reduceLE, Int.reduceToNat, Int.reduceAdd, Int.reduceSub, Int.reduceNeg])
    | ((with_reducible first | (apply WL_op; intro nx hnx) | refine Ev_out ?_ | refine wc ?_ | (refine pf hnm fun nm hnm => ?_; try simp only [fmb] at hnm) | (refine pborn_im ?_; simp only [elemsOf, nl, bir, Nat.reduceAdd, Nat.reduceMul, Nat.reduceSub, Nat.reduceLeDiff, Nat.reduceEqDiff, ↓reduceIte, reduceCtorEq, Nat.reduceLT, Nat.reducePow, Nat.reduceDiv, Nat.reduceMod, Nat.reduceBEq, Int.reduceLT, Int.reduceLE, Int.reduceToNat, Int.reduceAdd, Int.reduceSub, Int.reduceNeg])); try (simp (maxSteps := 2000000) (disch := omega) only [ev, ↓evp, PV.cells, PV.one, PV.mem?, Value.cells, Nat.reduceAdd, Nat.reduceMul, Nat.reduceSub, Nat.reduceLeDiff, Nat.reduceEqDiff, ↓reduceIte, reduceCtorEq, Nat.reduceLT, Nat.reducePow, Nat.reduceDiv, Nat.reduceMod, Nat.reduceBEq, Int.reduceLT, Int.reduceLE, Int.reduceToNat, Int.reduceAdd, Int.reduceSub, Int.reduceNeg, hnm, Try.tf0, Try.tf2, Try.tf5, Try.tf22, Try.tf28, Try.tf33, Try.tf79, Try.call41, Try.call42, hl, ho, ht, List.length_map, List.drop_zero]))
    | ((with_reducible first | apply W_block | apply W_scope | apply WL_nil | apply W_label | apply W_skip | apply W_exit | apply W_ret) <;> try simp only [kks, Nat.reduceAdd, Nat.reduceMul, Nat.reduceSub, Nat.reduceLeDiff, Nat.reduceEqDiff, ↓reduceIte, reduceCtorEq, Nat.reduceLT, Nat.reducePow, Nat.reduceDiv, Nat.reduceMod, Nat.reduceBEq, Int.reduceLT, Int.reduceLE, Int.reduceToNat, Int.reduceAdd, Int.reduceSub, Int.reduceNeg])
    | (with_reducible apply hnx; clear hnx nx)
    | (with_reducible refine And.intro (by omega) ?_)
    | (with_reducible refine And.intro ?_ ?_)
    | (clear hnx nx; with_reducible apply hnx; clear hnx nx)
    | (clear hnx nx; clear hnx nx; with_reducible apply hnx; clear hnx nx))
  all_goals first
    | exact ho
    | (refine pcall_k c2 ?_
       rintro _ _ ⟨N, rfl, rfl⟩ -
       refine Ev_in ?_
       repeat' (first
    | (with_reducible apply W_seq_k; intro nx hnx)
    | (with_reducible first | refine wr 51 ?_)
    | ((with_reducible first | (apply WL_op; intro nx hnx) | refine Ev_out ?_ | refine wc ?_ | (refine pf hnm fun nm hnm => ?_; try simp only [fmb] at hnm) | (refine pm hnm fun nm hnm => ?_; try simp only [fmb] at hnm)); try (simp (maxSteps := 2000000) (disch := omega) only [ev, ↓evp, PV.cells, PV.one, PV.mem?, Value.cells, Nat.reduceAdd, Nat.reduceMul, Nat.reduceSub, Nat.reduceLeDiff, Nat.reduceEqDiff, ↓reduceIte, reduceCtorEq, Nat.reduceLT, Nat.reducePow, Nat.reduceDiv, Nat.reduceMod, Nat.reduceBEq, Int.reduceLT, Int.reduceLE, Int.reduceToNat, Int.reduceAdd, Int.reduceSub, Int.reduceNeg, hnm, Try.tf0, Try.tf2, Try.tf5, Try.tf22, Try.tf28, Try.tf33, Try.tf79, Try.call41, Try.call42]))
    | ((with_reducible first | apply W_block | apply W_scope | apply WL_nil | apply W_label | apply W_skip | apply W_exit | apply W_ret) <;> try simp only [kks, Nat.reduceAdd, Nat.reduceMul, Nat.reduceSub, Nat.reduceLeDiff, Nat.reduceEqDiff, ↓reduceIte, reduceCtorEq, Nat.reduceLT, Nat.reducePow, Nat.reduceDiv, Nat.reduceMod, Nat.reduceBEq, Int.reduceLT, Int.reduceLE, Int.reduceToNat, Int.reduceAdd, Int.reduceSub, Int.reduceNeg])
    | (with_reducible apply hnx; clear hnx nx)
    | (with_reducible refine And.intro (by omega) ?_)
    | (with_reducible refine And.intro ?_ ?_)
    | (clear hnx nx; with_reducible apply hnx; clear hnx nx)
    | (clear hnx nx; clear hnx nx; with_reducible apply hnx; clear hnx nx))
       refine hfin _ _ (Fin_ret1 rfl (Sub_refl (by simp [names])) ⟨N, ?_, rfl⟩)
       simp only [fr_getD_cons, Nat.reduceEqDiff, Nat.reduceLT, ↓reduceIte])
/-- The packets' bytes in rows. -/
@[reducible] def pktC (s : LE) (j : Nat) : List PV := (pktL s j).map pbyte
set_option maxRecDepth 100000 in
set_option maxHeartbeats 8000000 in
theorem out_t (G : Globs) (e w m : Int) (s : LE) (hs : OkE s) (hwin : s.win ≤ 1000) (hW : ∀ b ∈ s.wait, b.length ≤ 65536) (ho : s.owing = false) :
    PCalls Try.prog G 13 [.ptr e 0] (endO e w m s) (fun res H => ∃ (n : Int) (nms : Nat → Int), Inj nms (min s.wait.length s.win) ∧ res = .row n 1 (min s.wait.length s.win) ∧
      H = (n, ⟨33, true, 1, tblC nms (pktL s) (min s.wait.length s.win)⟩) :: (endO e w m s ++ rowsH 5 nms (pktC s) (min s.wait.length s.win))) := by
  obtain ⟨hs1, hs2, hs3, hs4⟩ := hs
  refine PCalls.nd fun nd => ?_
  have hM := end_nd nd
  obtain ⟨k, hk⟩ : ∃ k, k = min s.wait.length s.win := ⟨_, rfl⟩
  have hk2 : min (s.wait.length : Int) (s.win : Int) = (k : Int) := by omega
  have hkl : k ≤ s.wait.length := by omega
  have hk3 : k ≤ 1000 := by omega
  rw [← hk]
  clear hk
  (refine PCalls_f Try.func13 rfl Try.ntmps13 Try.results13 (by simp) fun fin hfin => ?_; have hnm : True := trivial; simp only [ev, Nat.reduceAdd, Nat.reduceMul, Nat.reduceSub, Nat.reduceLeDiff, Nat.reduceEqDiff, ↓reduceIte, reduceCtorEq, Nat.reduceLT, Nat.reducePow, Nat.reduceDiv, Nat.reduceMod, Nat.reduceBEq, Int.reduceLT, Int.reduceLE, Int.reduceToNat, Int.reduceAdd, Int.reduceSub, Int.reduceNeg])
  with_reducible apply W_seq_k
  intro nx hnx
  repeat' (first
    | (with_reducible first | refine wr 7340093 ?_ | refine wd (id := 2) 7340093 1 (.op 0 true (.op 1 true (.op 2 true (.op 3 true (.op 4 true (.op 5 true (.op 6 true (.op 7 true (.op 8 true (.op 9 true (.op 10 true (.op 11 true (.op 12 true (.op 13 true (.op 14 true (.op 15 true (.op 16 true (.done)))))))))))))))))) (by kernel_rfl) ?_ | refine wd (id := 5) 7340093 8 (.op 0 true (.op 1 true (.op 2 true (.op 3 true (.op 4 true (.op 5 true (.op 6 true (.op 7 true (.op 8 true (.op 9 true (.op 10 true (.op 11 true (.op 12 true (.op 13 true (.op 14 true (.op 15 true (.op 16 true (.op 17 true (.op 18 true (.op 19 false (.op 20 false (.op 21 false (.op 22 true (.done)))))))))))))))))))))))) (by kernel_rfl) ?_ | refine wd (id := 8) 7340093 6 (.op 0 true (.op 1 true (.op 2 true (.op 3 true (.op 4 true (.op 5 true (.op 6 true (.op 7 true (.op 8 true (.op 9 true (.op 10 true (.op 11 false (.op 12 false (.op 13 false (.op 14 true (.done)))))))))))))))) (by kernel_rfl) ?_)
    | ((with_reducible first | (apply WL_op; intro nx hnx) | refine Ev_out ?_ | refine wc ?_ | (apply popsD_op; intro nx hnx) | (refine popsD_alt ?_ ?_; intro nx hnx) | (refine pf hnm fun nm hnm => ?_; try simp only [fmb] at hnm) | (refine pm hnm fun nm hnm => ?_; try simp only [fmb] at hnm) | (refine pmaybe_k ?_; intro bn hbn)); try (simp (maxSteps := 2000000) (disch := omega) only [ev, ↓evp, PV.cells, PV.one, PV.mem?, Value.cells, Nat.reduceAdd, Nat.reduceMul, Nat.reduceSub, Nat.reduceLeDiff, Nat.reduceEqDiff, ↓reduceIte, reduceCtorEq, Nat.reduceLT, Nat.reducePow, Nat.reduceDiv, Nat.reduceMod, Nat.reduceBEq, Int.reduceLT, Int.reduceLE, Int.reduceToNat, Int.reduceAdd, Int.reduceSub, Int.reduceNeg, hnm, Try.tf0, Try.tf1, Try.tf2, Try.tf3, Try.tf4, Try.tf5, Try.tf6, Try.tf22, Try.tf28, Try.tf33, Try.tf35, Try.tf65, Try.tf68, Try.call24, Try.call33]))
    | ((with_reducible first | apply W_block | apply W_scope | apply WL_nil | apply W_label | apply W_skip | apply W_exit | apply W_ret | apply popsD_done | exact popsD_stop) <;> try simp only [kks, Nat.reduceAdd, Nat.reduceMul, Nat.reduceSub, Nat.reduceLeDiff, Nat.reduceEqDiff, ↓reduceIte, reduceCtorEq, Nat.reduceLT, Nat.reducePow, Nat.reduceDiv, Nat.reduceMod, Nat.reduceBEq, Int.reduceLT, Int.reduceLE, Int.reduceToNat, Int.reduceAdd, Int.reduceSub, Int.reduceNeg])
    | (with_reducible apply pg <;> (intro hc; (try simp only [hcb, Nat.reduceAdd, Nat.reduceMul, Nat.reduceSub, Nat.reduceLeDiff, Nat.reduceEqDiff, ↓reduceIte, reduceCtorEq, Nat.reduceLT, Nat.reducePow, Nat.reduceDiv, Nat.reduceMod, Nat.reduceBEq, Int.reduceLT, Int.reduceLE, Int.reduceToNat, Int.reduceAdd, Int.reduceSub, Int.reduceNeg, ne_eq, forall_const] at hc); first | (exfalso; omega) | exact absurd trivial hc | skip))
    | (with_reducible apply hnx; clear hnx nx)
    | (with_reducible refine And.intro (by omega) ?_)
    | (with_reducible refine And.intro ?_ ?_)
    | (clear hnx nx; with_reducible apply hnx; clear hnx nx)
    | (clear hnx nx; clear hnx nx; with_reducible apply hnx; clear hnx nx))
  with_reducible apply W_seq_k
  intro nx hnx
  repeat' (first
    | (with_reducible first | refine wr 7340093 ?_ | refine wd (id := 2) 7340093 1 (.op 0 true (.op 1 true (.op 2 true (.op 3 true (.op 4 true (.op 5 true (.op 6 true (.op 7 true (.op 8 true (.op 9 true (.op 10 true (.op 11 true (.op 12 true (.op 13 true (.op 14 true (.op 15 true (.op 16 true (.done)))))))))))))))))) (by kernel_rfl) ?_ | refine wd (id := 5) 7340093 8 (.op 0 true (.op 1 true (.op 2 true (.op 3 true (.op 4 true (.op 5 true (.op 6 true (.op 7 true (.op 8 true (.op 9 true (.op 10 true (.op 11 true (.op 12 true (.op 13 true (.op 14 true (.op 15 true (.op 16 true (.op 17 true (.op 18 true (.op 19 false (.op 20 false (.op 21 false (.op 22 true (.done)))))))))))))))))))))))) (by kernel_rfl) ?_ | refine wd (id := 8) 7340093 6 (.op 0 true (.op 1 true (.op 2 true (.op 3 true (.op 4 true (.op 5 true (.op 6 true (.op 7 true (.op 8 true (.op 9 true (.op 10 true (.op 11 false (.op 12 false (.op 13 false (.op 14 true (.done)))))))))))))))) (by kernel_rfl) ?_)
    | ((with_reducible first | (apply WL_op; intro nx hnx) | refine Ev_out ?_ | refine wc ?_ | (apply popsD_op; intro nx hnx) | (refine popsD_alt ?_ ?_; intro nx hnx) | (refine pf hnm fun nm hnm => ?_; try simp only [fmb] at hnm) | (refine pm hnm fun nm hnm => ?_; try simp only [fmb] at hnm) | (refine pmaybe_k ?_; intro bn hbn)); try (simp (maxSteps := 2000000) (disch := omega) only [ev, ↓evp, PV.cells, PV.one, PV.mem?, Value.cells, Nat.reduceAdd, Nat.reduceMul, Nat.reduceSub, Nat.reduceLeDiff, Nat.reduceEqDiff, ↓reduceIte, reduceCtorEq, Nat.reduceLT, Nat.reducePow, Nat.reduceDiv, Nat.reduceMod, Nat.reduceBEq, Int.reduceLT, Int.reduceLE, Int.reduceToNat, Int.reduceAdd, Int.reduceSub, Int.reduceNeg, hnm, Try.tf0, Try.tf1, Try.tf2, Try.tf3, Try.tf4, Try.tf5, Try.tf6, Try.tf22, Try.tf28, Try.tf33, Try.tf35, Try.tf65, Try.tf68, Try.call24, Try.call33]))
    | ((with_reducible first | apply W_block | apply W_scope | apply WL_nil | apply W_label | apply W_skip | apply W_exit | apply W_ret | apply popsD_done | exact popsD_stop) <;> try simp only [kks, Nat.reduceAdd, Nat.reduceMul, Nat.reduceSub, Nat.reduceLeDiff, Nat.reduceEqDiff, ↓reduceIte, reduceCtorEq, Nat.reduceLT, Nat.reducePow, Nat.reduceDiv, Nat.reduceMod, Nat.reduceBEq, Int.reduceLT, Int.reduceLE, Int.reduceToNat, Int.reduceAdd, Int.reduceSub, Int.reduceNeg])
    | (with_reducible apply pg <;> (intro hc; (try simp only [hcb, Nat.reduceAdd, Nat.reduceMul, Nat.reduceSub, Nat.reduceLeDiff, Nat.reduceEqDiff, ↓reduceIte, reduceCtorEq, Nat.reduceLT, Nat.reducePow, Nat.reduceDiv, Nat.reduceMod, Nat.reduceBEq, Int.reduceLT, Int.reduceLE, Int.reduceToNat, Int.reduceAdd, Int.reduceSub, Int.reduceNeg, ne_eq, forall_const] at hc); first | (exfalso; omega) | exact absurd trivial hc | skip))
    | (with_reducible apply hnx; clear hnx nx)
    | (with_reducible refine And.intro (by omega) ?_)
    | (with_reducible refine And.intro ?_ ?_)
    | (clear hnx nx; with_reducible apply hnx; clear hnx nx)
    | (clear hnx nx; clear hnx nx; with_reducible apply hnx; clear hnx nx))
  refine W_adopt_f 3 33 1 (by simp only [fr_getD_cons, Nat.reduceEqDiff, Nat.reduceLT, ↓reduceIte]) fun nm0 hnm0 => ?_
  have hn0 : ¬ nm0 = e ∧ ¬ nm0 = w ∧ ¬ nm0 = m := by simpa [names] using hnm0
  repeat' (first
    | (with_reducible apply W_seq_k; intro nx hnx)
    | (with_reducible first | refine wr 7340093 ?_ | refine wd (id := 2) 7340093 1 (.op 0 true (.op 1 true (.op 2 true (.op 3 true (.op 4 true (.op 5 true (.op 6 true (.op 7 true (.op 8 true (.op 9 true (.op 10 true (.op 11 true (.op 12 true (.op 13 true (.op 14 true (.op 15 true (.op 16 true (.done)))))))))))))))))) (by kernel_rfl) ?_ | refine wd (id := 5) 7340093 8 (.op 0 true (.op 1 true (.op 2 true (.op 3 true (.op 4 true (.op 5 true (.op 6 true (.op 7 true (.op 8 true (.op 9 true (.op 10 true (.op 11 true (.op 12 true (.op 13 true (.op 14 true (.op 15 true (.op 16 true (.op 17 true (.op 18 true (.op 19 false (.op 20 false (.op 21 false (.op 22 true (.done)))))))))))))))))))))))) (by kernel_rfl) ?_ | refine wd (id := 8) 7340093 6 (.op 0 true (.op 1 true (.op 2 true (.op 3 true (.op 4 true (.op 5 true (.op 6 true (.op 7 true (.op 8 true (.op 9 true (.op 10 true (.op 11 false (.op 12 false (.op 13 false (.op 14 true (.done)))))))))))))))) (by kernel_rfl) ?_)
    | ((with_reducible first | (apply WL_op; intro nx hnx) | refine Ev_out ?_ | refine wc ?_ | (apply popsD_op; intro nx hnx) | (refine popsD_alt ?_ ?_; intro nx hnx) | (refine pf hnm fun nm hnm => ?_; try simp only [fmb] at hnm) | (refine pm hnm fun nm hnm => ?_; try simp only [fmb] at hnm) | (refine pmaybe_k ?_; intro bn hbn)); try (simp (maxSteps := 2000000) (disch := omega) only [ev, ↓evp, PV.cells, PV.one, PV.mem?, Value.cells, Nat.reduceAdd, Nat.reduceMul, Nat.reduceSub, Nat.reduceLeDiff, Nat.reduceEqDiff, ↓reduceIte, reduceCtorEq, Nat.reduceLT, Nat.reducePow, Nat.reduceDiv, Nat.reduceMod, Nat.reduceBEq, Int.reduceLT, Int.reduceLE, Int.reduceToNat, Int.reduceAdd, Int.reduceSub, Int.reduceNeg, hnm, Try.tf0, Try.tf1, Try.tf2, Try.tf3, Try.tf4, Try.tf5, Try.tf6, Try.tf22, Try.tf28, Try.tf33, Try.tf35, Try.tf65, Try.tf68, Try.call24, Try.call33, hM, hn0, hk2]))
    | ((with_reducible first | apply W_block | apply W_scope | apply WL_nil | apply W_label | apply W_skip | apply W_exit | apply W_ret | apply popsD_done | exact popsD_stop) <;> try simp only [kks, Nat.reduceAdd, Nat.reduceMul, Nat.reduceSub, Nat.reduceLeDiff, Nat.reduceEqDiff, ↓reduceIte, reduceCtorEq, Nat.reduceLT, Nat.reducePow, Nat.reduceDiv, Nat.reduceMod, Nat.reduceBEq, Int.reduceLT, Int.reduceLE, Int.reduceToNat, Int.reduceAdd, Int.reduceSub, Int.reduceNeg])
    | (with_reducible apply pg <;> (intro hc; (try simp only [hcb, Nat.reduceAdd, Nat.reduceMul, Nat.reduceSub, Nat.reduceLeDiff, Nat.reduceEqDiff, ↓reduceIte, reduceCtorEq, Nat.reduceLT, Nat.reducePow, Nat.reduceDiv, Nat.reduceMod, Nat.reduceBEq, Int.reduceLT, Int.reduceLE, Int.reduceToNat, Int.reduceAdd, Int.reduceSub, Int.reduceNeg, ne_eq, forall_const] at hc); first | (exfalso; omega) | exact absurd trivial hc | skip))
    | (with_reducible apply hnx; clear hnx nx)
    | (with_reducible refine And.intro (by omega) ?_)
    | (with_reducible refine And.intro ?_ ?_)
    | (clear hnx nx; with_reducible apply hnx; clear hnx nx)
    | (clear hnx nx; clear hnx nx; with_reducible apply hnx; clear hnx nx))
  all_goals first
    | (exfalso
       omega)
    | skip
  refine W_loop_k (fun z τ => ∃ (n : Int) (nms : Nat → Int) (i : Nat), i ≤ k ∧ z = k - i ∧ Inj nms i ∧ τ = ⟨fr 77 [(0, .ptr e 0), (3, .row n 1 i), (20, .row w 1 k), (21, pint .i64 k), (22, pint .i64 i)], (n, ⟨33, true, 1, tblC nms (pktL s) i⟩) :: (endO e w m s ++ rowsH 5 nms (pktC s) i)⟩) k
    ⟨fr 77 [(0, .ptr e 0), (3, .row nm0 1 0), (20, .row w 1 k), (21, pint .i64 k), (22, pint .i64 (0 : Nat))], (nm0, ⟨33, true, 1, tblC (fun _ => 0) (pktL s) 0⟩) :: (endO e w m s ++ rowsH 5 (fun _ => 0) (pktC s) 0)⟩ (by
    refine Wk_fr (by simp only [wkb, Nat.reduceAdd, Nat.reduceMul, Nat.reduceSub, Nat.reduceLeDiff, Nat.reduceEqDiff, ↓reduceIte, reduceCtorEq, Nat.reduceLT, Nat.reducePow, Nat.reduceDiv, Nat.reduceMod, Nat.reduceBEq, Int.reduceLT, Int.reduceLE, Int.reduceToNat, Int.reduceAdd, Int.reduceSub, Int.reduceNeg]) ?_
    simp only [tblC, tab_zero, rowsH_zero, List.append_nil]
    exact Sub_refl (by simp [names, hM, hn0])) ⟨nm0, fun _ => 0, 0, by omega, by omega, fun i j h => by omega, rfl⟩ ?_
  clear hnm0 hn0
  rintro z τ ⟨n, nms, i, hi, rfl, hI, rfl⟩ lp hlp
  refine W_nd fun nd2 => ?_
  have hN0 : ¬ n = e ∧ ¬ n = w ∧ ¬ n = m := by
    simp only [names, List.cons_append, List.nil_append, List.map_cons, List.map_nil, List.nodup_cons, List.mem_cons, List.not_mem_nil, or_false, not_or] at nd2
    exact ⟨nd2.1.1, nd2.1.2.1, nd2.1.2.2.1⟩
  have hN : (n = e) = False ∧ (n = w) = False ∧ (n = m) = False := ⟨eq_false hN0.1, eq_false hN0.2.1, eq_false hN0.2.2⟩
  have hN2 : (e = n) = False ∧ (w = n) = False ∧ (m = n) = False := ⟨eq_false fun h => hN0.1 h.symm, eq_false fun h => hN0.2.1 h.symm, eq_false fun h => hN0.2.2 h.symm⟩
  have hT : List.length (tblC nms (pktL s) i) = i := tab_len ..
  by_cases hik : i < k
  · obtain ⟨b, hb⟩ : ∃ b, b = s.wait.getD i [] := ⟨_, rfl⟩
    have hget : s.wait[i]? = some b := by
      have hi2 : i < s.wait.length := by omega
      simp [hb, List.getD_eq_getElem?_getD, List.getElem?_eq_getElem hi2]
    have hbl : b.length ≤ 65536 := by
      rw [hb]
      have hi2 : i < s.wait.length := by omega
      rw [List.getD_eq_getElem?_getD, List.getElem?_eq_getElem hi2]
      exact hW _ (List.getElem_mem hi2)
    have hq1 : inR ((s.acked + i + 1 : Nat) : Int) := ⟨by omega, by omega⟩
    have hq2 : inR (s.got : Int) := ⟨by omega, by omega⟩
    have c1 := pbytes_c G ((s.acked + i + 1 : Nat) : Int) s.got b hq1 hq2 (by omega)
    have hpl := packB_len ((s.acked + i + 1 : Nat) : Int) s.got b hq1 hq2 (by omega)
    have c2 := Seal_r G s.key (packB ((s.acked + i + 1 : Nat) : Int) s.got b) (by omega)
    have hP : packB ((s.acked + i + 1 : Nat) : Int) s.got b ++ sealB s.key (packB ((s.acked + i + 1 : Nat) : Int) s.got b) = pktL s i := by rw [pktL, ← hb]; rfl
    rw [hP] at c2
    generalize packB ((s.acked + i + 1 : Nat) : Int) s.got b = pb at *
    push_cast at c1
    clear hb hP hpl
    repeat' (first
    | (with_reducible apply W_seq_k; intro nx hnx)
    | (with_reducible first | refine wr 7340093 ?_ | refine wd (id := 2) 7340093 1 (.op 0 true (.op 1 true (.op 2 true (.op 3 true (.op 4 true (.op 5 true (.op 6 true (.op 7 true (.op 8 true (.op 9 true (.op 10 true (.op 11 true (.op 12 true (.op 13 true (.op 14 true (.op 15 true (.op 16 true (.done)))))))))))))))))) (by kernel_rfl) ?_ | refine wd (id := 5) 7340093 8 (.op 0 true (.op 1 true (.op 2 true (.op 3 true (.op 4 true (.op 5 true (.op 6 true (.op 7 true (.op 8 true (.op 9 true (.op 10 true (.op 11 true (.op 12 true (.op 13 true (.op 14 true (.op 15 true (.op 16 true (.op 17 true (.op 18 true (.op 19 false (.op 20 false (.op 21 false (.op 22 true (.done)))))))))))))))))))))))) (by kernel_rfl) ?_ | refine wd (id := 8) 7340093 6 (.op 0 true (.op 1 true (.op 2 true (.op 3 true (.op 4 true (.op 5 true (.op 6 true (.op 7 true (.op 8 true (.op 9 true (.op 10 true (.op 11 false (.op 12 false (.op 13 false (.op 14 true (.done)))))))))))))))) (by kernel_rfl) ?_)
    | ((with_reducible first | (apply WL_op; intro nx hnx) | refine Ev_out ?_ | refine wc ?_ | (apply popsD_op; intro nx hnx) | (refine popsD_alt ?_ ?_; intro nx hnx) | (refine pf hnm fun nm hnm => ?_; try simp only [fmb] at hnm) | (refine pm hnm fun nm hnm => ?_; try simp only [fmb] at hnm) | (refine pmaybe_k ?_; intro bn hbn)); try (simp (maxSteps := 2000000) (disch := omega) only [ev, ↓evp, PV.cells, PV.one, PV.mem?, Value.cells, Nat.reduceAdd, Nat.reduceMul, Nat.reduceSub, Nat.reduceLeDiff, Nat.reduceEqDiff, ↓reduceIte, reduceCtorEq, Nat.reduceLT, Nat.reducePow, Nat.reduceDiv, Nat.reduceMod, Nat.reduceBEq, Int.reduceLT, Int.reduceLE, Int.reduceToNat, Int.reduceAdd, Int.reduceSub, Int.reduceNeg, hnm, Try.tf0, Try.tf1, Try.tf2, Try.tf3, Try.tf4, Try.tf5, Try.tf6, Try.tf22, Try.tf28, Try.tf33, Try.tf35, Try.tf65, Try.tf68, Try.call24, Try.call33, hM, hN, hN2, hget]))
    | ((with_reducible first | apply W_block | apply W_scope | apply WL_nil | apply W_label | apply W_skip | apply W_exit | apply W_ret | apply popsD_done | exact popsD_stop) <;> try simp only [kks, Nat.reduceAdd, Nat.reduceMul, Nat.reduceSub, Nat.reduceLeDiff, Nat.reduceEqDiff, ↓reduceIte, reduceCtorEq, Nat.reduceLT, Nat.reducePow, Nat.reduceDiv, Nat.reduceMod, Nat.reduceBEq, Int.reduceLT, Int.reduceLE, Int.reduceToNat, Int.reduceAdd, Int.reduceSub, Int.reduceNeg])
    | (with_reducible apply pg <;> (intro hc; (try simp only [hcb, Nat.reduceAdd, Nat.reduceMul, Nat.reduceSub, Nat.reduceLeDiff, Nat.reduceEqDiff, ↓reduceIte, reduceCtorEq, Nat.reduceLT, Nat.reducePow, Nat.reduceDiv, Nat.reduceMod, Nat.reduceBEq, Int.reduceLT, Int.reduceLE, Int.reduceToNat, Int.reduceAdd, Int.reduceSub, Int.reduceNeg, ne_eq, forall_const] at hc); first | (exfalso; omega) | exact absurd trivial hc | skip))
    | (with_reducible apply hnx; clear hnx nx)
    | (with_reducible refine And.intro (by omega) ?_)
    | (with_reducible refine And.intro ?_ ?_)
    | (with_reducible refine pe (c1) ?_)
    | (clear hnx nx; with_reducible apply hnx; clear hnx nx)
    | (clear hnx nx; clear hnx nx; with_reducible apply hnx; clear hnx nx))
    all_goals first
      | (exfalso
         omega)
      | skip
    refine pcall_k c2 ?_
    rintro _ _ ⟨N, rfl, rfl⟩ hNn
    have hNm := hNn N (by simp [names])
    clear hNn
    simp only [names, List.map_cons, List.mem_cons, not_or] at hNm
    have hX : (N = n) = False ∧ (n = N) = False ∧ (N = e) = False ∧ (e = N) = False ∧ (N = w) = False ∧ (w = N) = False ∧ (N = m) = False ∧ (m = N) = False :=
      ⟨eq_false hNm.1, eq_false fun h => hNm.1 h.symm, eq_false hNm.2.1, eq_false fun h => hNm.2.1 h.symm, eq_false hNm.2.2.1, eq_false fun h => hNm.2.2.1 h.symm, eq_false hNm.2.2.2.1, eq_false fun h => hNm.2.2.2.1 h.symm⟩
    refine Ev_in ?_
    repeat' (first
    | (with_reducible apply W_seq_k; intro nx hnx)
    | (with_reducible first | refine wr 7340093 ?_ | refine wd (id := 2) 7340093 1 (.op 0 true (.op 1 true (.op 2 true (.op 3 true (.op 4 true (.op 5 true (.op 6 true (.op 7 true (.op 8 true (.op 9 true (.op 10 true (.op 11 true (.op 12 true (.op 13 true (.op 14 true (.op 15 true (.op 16 true (.done)))))))))))))))))) (by kernel_rfl) ?_ | refine wd (id := 5) 7340093 8 (.op 0 true (.op 1 true (.op 2 true (.op 3 true (.op 4 true (.op 5 true (.op 6 true (.op 7 true (.op 8 true (.op 9 true (.op 10 true (.op 11 true (.op 12 true (.op 13 true (.op 14 true (.op 15 true (.op 16 true (.op 17 true (.op 18 true (.op 19 false (.op 20 false (.op 21 false (.op 22 true (.done)))))))))))))))))))))))) (by kernel_rfl) ?_ | refine wd (id := 8) 7340093 6 (.op 0 true (.op 1 true (.op 2 true (.op 3 true (.op 4 true (.op 5 true (.op 6 true (.op 7 true (.op 8 true (.op 9 true (.op 10 true (.op 11 false (.op 12 false (.op 13 false (.op 14 true (.done)))))))))))))))) (by kernel_rfl) ?_)
    | ((with_reducible first | (apply WL_op; intro nx hnx) | refine Ev_out ?_ | refine wc ?_ | (apply popsD_op; intro nx hnx) | (refine popsD_alt ?_ ?_; intro nx hnx) | (refine pf hnm fun nm hnm => ?_; try simp only [fmb] at hnm) | (refine pm hnm fun nm hnm => ?_; try simp only [fmb] at hnm) | (refine pmaybe_k ?_; intro bn hbn)); try (simp (maxSteps := 2000000) (disch := omega) only [ev, ↓evp, PV.cells, PV.one, PV.mem?, Value.cells, Nat.reduceAdd, Nat.reduceMul, Nat.reduceSub, Nat.reduceLeDiff, Nat.reduceEqDiff, ↓reduceIte, reduceCtorEq, Nat.reduceLT, Nat.reducePow, Nat.reduceDiv, Nat.reduceMod, Nat.reduceBEq, Int.reduceLT, Int.reduceLE, Int.reduceToNat, Int.reduceAdd, Int.reduceSub, Int.reduceNeg, hnm, Try.tf0, Try.tf1, Try.tf2, Try.tf3, Try.tf4, Try.tf5, Try.tf6, Try.tf22, Try.tf28, Try.tf33, Try.tf35, Try.tf65, Try.tf68, Try.call24, Try.call33, hM, hN, hN2, hX]))
    | ((with_reducible first | apply W_block | apply W_scope | apply WL_nil | apply W_label | apply W_skip | apply W_exit | apply W_ret | apply popsD_done | exact popsD_stop) <;> try simp only [kks, Nat.reduceAdd, Nat.reduceMul, Nat.reduceSub, Nat.reduceLeDiff, Nat.reduceEqDiff, ↓reduceIte, reduceCtorEq, Nat.reduceLT, Nat.reducePow, Nat.reduceDiv, Nat.reduceMod, Nat.reduceBEq, Int.reduceLT, Int.reduceLE, Int.reduceToNat, Int.reduceAdd, Int.reduceSub, Int.reduceNeg])
    | (with_reducible apply pg <;> (intro hc; (try simp only [hcb, Nat.reduceAdd, Nat.reduceMul, Nat.reduceSub, Nat.reduceLeDiff, Nat.reduceEqDiff, ↓reduceIte, reduceCtorEq, Nat.reduceLT, Nat.reducePow, Nat.reduceDiv, Nat.reduceMod, Nat.reduceBEq, Int.reduceLT, Int.reduceLE, Int.reduceToNat, Int.reduceAdd, Int.reduceSub, Int.reduceNeg, ne_eq, forall_const] at hc); first | (exfalso; omega) | exact absurd trivial hc | skip))
    | (with_reducible apply hnx; clear hnx nx)
    | (with_reducible refine And.intro (by omega) ?_)
    | (with_reducible refine And.intro ?_ ?_)
    | (clear hnx nx; with_reducible apply hnx; clear hnx nx)
    | (clear hnx nx; clear hnx nx; with_reducible apply hnx; clear hnx nx))
    all_goals first
      | (exfalso
         omega)
      | skip
    refine hlp _ (k - (i + 1)) _ (by omega) ?_ ⟨nm, fun j => if j = i then N else nms j, i + 1, by omega, rfl, hI.more fun j hj h => hNm.2.2.2.2 (rowsH_names.2 ⟨j, hj, h⟩), rfl⟩
    rw [← tblC_more, rowsH_more]
    refine Wk_fr (by simp only [wkb, Nat.reduceAdd, Nat.reduceMul, Nat.reduceSub, Nat.reduceLeDiff, Nat.reduceEqDiff, ↓reduceIte, reduceCtorEq, Nat.reduceLT, Nat.reducePow, Nat.reduceDiv, Nat.reduceMod, Nat.reduceBEq, Int.reduceLT, Int.reduceLE, Int.reduceToNat, Int.reduceAdd, Int.reduceSub, Int.reduceNeg]) ?_
    have h1 : (e :: w :: m :: names (rowsH 5 nms (pktC s) i)).Nodup := by
      simpa [names] using (List.nodup_cons.1 nd2).2
    have h2 : N ∉ e :: w :: m :: names (rowsH 5 nms (pktC s) i) := by
      simp only [List.mem_cons, not_or]
      exact hNm.2
    have h3 : nm ∉ N :: e :: w :: m :: names (rowsH 5 nms (pktC s) i) := by
      intro h
      simp only [List.mem_cons] at h
      obtain ⟨-, -, q1, q2, q3, q4, q5⟩ := hnm
      rcases h with h | h | h | h | h
      · exact of_eq_false q1.1 h
      · exact of_eq_false q2.1 h
      · exact of_eq_false q3.1 h
      · exact of_eq_false q4.1 h
      · exact of_eq_false (q5 _ h).1 rfl
    refine ⟨?_, by simpa [names] using tab_nodup h1 h2 h3⟩
    intro x hx
    simp only [List.mem_cons, List.cons_append, List.nil_append] at hx ⊢
    rcases hx with rfl | rfl | rfl | rfl | rfl | hx
    · exact .inl rfl
    · exact .inr (.inr (.inr (.inl rfl)))
    · exact .inr (.inr (.inr (.inr (.inl rfl))))
    · exact .inr (.inr (.inr (.inr (.inr (.inl rfl)))))
    · exact .inr (.inr (.inl rfl))
    · exact .inr (.inr (.inr (.inr (.inr (.inr hx)))))
  · have hi : i = k := by omega
    subst hi
    clear hlp
    repeat' (first
    | (with_reducible apply W_seq_k; intro nx hnx)
    | (with_reducible first | refine wr 7340093 ?_ | refine wd (id := 2) 7340093 1 (.op 0 true (.op 1 true (.op 2 true (.op 3 true (.op 4 true (.op 5 true (.op 6 true (.op 7 true (.op 8 true (.op 9 true (.op 10 true (.op 11 true (.op 12 true (.op 13 true (.op 14 true (.op 15 true (.op 16 true (.done)))))))))))))))))) (by kernel_rfl) ?_ | refine wd (id := 5) 7340093 8 (.op 0 true (.op 1 true (.op 2 true (.op 3 true (.op 4 true (.op 5 true (.op 6 true (.op 7 true (.op 8 true (.op 9 true (.op 10 true (.op 11 true (.op 12 true (.op 13 true (.op 14 true (.op 15 true (.op 16 true (.op 17 true (.op 18 true (.op 19 false (.op 20 false (.op 21 false (.op 22 true (.done)))))))))))))))))))))))) (by kernel_rfl) ?_ | refine wd (id := 8) 7340093 6 (.op 0 true (.op 1 true (.op 2 true (.op 3 true (.op 4 true (.op 5 true (.op 6 true (.op 7 true (.op 8 true (.op 9 true (.op 10 true (.op 11 false (.op 12 false (.op 13 false (.op 14 true (.done)))))))))))))))) (by kernel_rfl) ?_)
    | ((with_reducible first | (apply WL_op; intro nx hnx) | refine Ev_out ?_ | refine wc ?_ | (apply popsD_op; intro nx hnx) | (refine popsD_alt ?_ ?_; intro nx hnx) | (refine pf hnm fun nm hnm => ?_; try simp only [fmb] at hnm) | (refine pm hnm fun nm hnm => ?_; try simp only [fmb] at hnm) | (refine pmaybe_k ?_; intro bn hbn)); try (simp (maxSteps := 2000000) (disch := omega) only [ev, ↓evp, PV.cells, PV.one, PV.mem?, Value.cells, Nat.reduceAdd, Nat.reduceMul, Nat.reduceSub, Nat.reduceLeDiff, Nat.reduceEqDiff, ↓reduceIte, reduceCtorEq, Nat.reduceLT, Nat.reducePow, Nat.reduceDiv, Nat.reduceMod, Nat.reduceBEq, Int.reduceLT, Int.reduceLE, Int.reduceToNat, Int.reduceAdd, Int.reduceSub, Int.reduceNeg, hnm, Try.tf0, Try.tf1, Try.tf2, Try.tf3, Try.tf4, Try.tf5, Try.tf6, Try.tf22, Try.tf28, Try.tf33, Try.tf35, Try.tf65, Try.tf68, Try.call24, Try.call33, hM, hN, hN2, ho]))
    | ((with_reducible first | apply W_block | apply W_scope | apply WL_nil | apply W_label | apply W_skip | apply W_exit | apply W_ret | apply popsD_done | exact popsD_stop) <;> try simp only [kks, Nat.reduceAdd, Nat.reduceMul, Nat.reduceSub, Nat.reduceLeDiff, Nat.reduceEqDiff, ↓reduceIte, reduceCtorEq, Nat.reduceLT, Nat.reducePow, Nat.reduceDiv, Nat.reduceMod, Nat.reduceBEq, Int.reduceLT, Int.reduceLE, Int.reduceToNat, Int.reduceAdd, Int.reduceSub, Int.reduceNeg])
    | (with_reducible apply pg <;> (intro hc; (try simp only [hcb, Nat.reduceAdd, Nat.reduceMul, Nat.reduceSub, Nat.reduceLeDiff, Nat.reduceEqDiff, ↓reduceIte, reduceCtorEq, Nat.reduceLT, Nat.reducePow, Nat.reduceDiv, Nat.reduceMod, Nat.reduceBEq, Int.reduceLT, Int.reduceLE, Int.reduceToNat, Int.reduceAdd, Int.reduceSub, Int.reduceNeg, ne_eq, forall_const] at hc); first | (exfalso; omega) | exact absurd trivial hc | skip))
    | (with_reducible apply hnx; clear hnx nx)
    | (with_reducible refine And.intro (by omega) ?_)
    | (with_reducible refine And.intro ?_ ?_)
    | (clear hnx nx; with_reducible apply hnx; clear hnx nx)
    | (clear hnx nx; clear hnx nx; with_reducible apply hnx; clear hnx nx))
    all_goals first
      | exact absurd trivial hc
      | (exfalso
         omega)
      | skip
    all_goals
      refine hfin _ _ (Fin_ret1 rfl (H := (n, ⟨33, true, 1, tblC nms (pktL s) i⟩) :: (endO e w m s ++ rowsH 5 nms (pktC s) i)) ⟨?_, nd2⟩ ⟨n, nms, hI, ?_, rfl⟩)
      · intro x hx
        simp only [List.mem_cons, List.cons_append, List.nil_append] at hx ⊢
        rcases hx with rfl | rfl | rfl | rfl | hx
        · exact .inl rfl
        · exact .inr (.inl (by simp [ho]))
        · exact .inr (.inr (.inl rfl))
        · exact .inr (.inr (.inr (.inl rfl)))
        · exact .inr (.inr (.inr (.inr hx)))
      · simp only [fr_getD_cons, Nat.reduceEqDiff, Nat.reduceLT, ↓reduceIte]
end Go.PM

namespace Go.PM
open Go.Proofs
section
variable {P : Program} {G : Globs} {f : List PV} {fn : FuncId} {args : List PV} {R : PV → Heap → Prop} {d : Option Tmp} {K : PState → Prop} {A B C : Heap}
theorem pcall_q0 (hc : PCalls P G fn args A R) (hk : ∀ res H, R res H → K (PState.put ⟨f, H ++ B⟩ d res)) : @pcallI false P G ⟨f, A ++ B⟩ d fn args ⟨K⟩ :=
  pcall_mid [] A B rfl hc hk
theorem pcall_q1 (hc : PCalls P G fn args B R) (hk : ∀ res H, R res H → K (PState.put ⟨f, A ++ H⟩ d res)) : @pcallI false P G ⟨f, A ++ B⟩ d fn args ⟨K⟩ :=
  pcall_mid A B [] (by simp) hc (fun res H h => by simpa using hk res H h)
theorem pcall_q2 {x : Int × PObj} (hc : PCalls P G fn args A R) (hk : ∀ res H, R res H → K (PState.put ⟨f, x :: (H ++ B)⟩ d res)) : @pcallI false P G ⟨f, x :: (A ++ B)⟩ d fn args ⟨K⟩ :=
  pcall_mid [x] A B rfl hc hk
end
attribute [local irreducible] W PCalls pcall pcallI WL
set_option maxRecDepth 100000 in
set_option maxHeartbeats 8000000 in
/-- A message that is too long is refused; its bytes aren't looked at. -/
theorem send_big (G : Globs) (e B : Int) (s : LE) (N : Nat) (hN : 65536 < N) (Hin : Heap) (hH : IsEnd e s Hin) :
    PCalls Try.prog G 11 [.ptr e 0, .row B 1 N] Hin (fun res H => res = pint .i64 4 ∧ H = Hin) := by
  obtain ⟨w, m, rfl⟩ := hH
  refine PCalls.nd fun nd => ?_
  have hM := end_nd nd
  (refine PCalls_f Try.func11 rfl Try.ntmps11 Try.results11 (by simp) fun fin hfin => ?_; have hnm : True := trivial; simp only [ev, simprocAttr])
  repeat' (first
    | (with_reducible apply W_seq_k; intro nx hnx)
    | (with_reducible first | refine wr 19 ?_ | refine wd (id := 3) 19 3 (.op 0 true (.op 1 true (.op 2 true (.op 3 true (.op 4 true (.op 5 true (.op 6 true (.op 7 true (.op 8 false (.op 9 true (.op 10 true (.op 11 false (.done))))))))))))) (by kernel_rfl) ?_)
    | ((with_reducible first | (apply WL_op; intro nx hnx) | refine Ev_out ?_ | refine wc ?_ | (apply popsD_op; intro nx hnx) | (refine popsD_alt ?_ ?_; intro nx hnx) | (refine pf hnm fun nm hnm => ?_; try simp only [fmb] at hnm) | (refine pm hnm fun nm hnm => ?_; try simp only [fmb] at hnm)); try (simp (maxSteps := 2000000) (disch := omega) only [ev, ↓evp, PV.cells, PV.one, PV.mem?, Value.cells, simprocAttr, hnm, Try.tf0, Try.tf1, Try.tf2, Try.tf3, Try.tf4, Try.tf5, Try.tf28, Try.tf33, Try.tf34, Try.tf35, Try.tf65, Try.call32, hM]))
    | ((with_reducible first | apply W_block | apply W_scope | apply WL_nil | apply W_label | apply W_skip | apply W_exit | apply W_ret | apply popsD_done | exact popsD_stop) <;> try simp only [kks, simprocAttr])
    | (with_reducible apply pg <;> (intro hc; (try simp only [hcb, simprocAttr, ne_eq, forall_const] at hc); first | (exfalso; omega) | exact absurd trivial hc | skip))
    | (with_reducible apply hnx; clear hnx nx)
    | (with_reducible refine And.intro (by omega) ?_)
    | (with_reducible refine And.intro ?_ ?_)
    | (clear hnx nx; with_reducible apply hnx; clear hnx nx)
    | (clear hnx nx; clear hnx nx; with_reducible apply hnx; clear hnx nx))
  all_goals first
    | (exfalso
       omega)
    | (refine hfin _ _ (Fin_ret1 rfl (Sub_refl nd) ?_); simp only [cob, simprocAttr]
       exact ⟨by trivial, by trivial⟩)
set_option maxRecDepth 100000 in
set_option maxHeartbeats 8000000 in
theorem win_end (G : Globs) (fin : Exit → PState → Prop) (hfin : ∀ e σ, Fin Try.prog [.tmp 8] (fun res H => res = pbool true ∧ H = []) e σ → fin e σ) (a c : Int) (Ha Hc : Heap) (sa sc : LE) (hEa : IsEnd a sa Ha) (hEc : IsEnd c sc Hc) (n k win : Nat) (q r : List (List UInt8))
    (h1 : sa.wait.length = n - k) (hk : k ≤ n) (h2 : sc.wait.length = n) (hn : n ≤ 39) (hw : win ≤ 16) (hq : q.length = min (n - k) win) (hr : r.length = min n win) :
    W Try.prog G [] (nav (Try.f8.body.getD .skip) [1, 1, 1, 1, 1, 1, 1, 1, 1, 1, 1, 1, 1, 1, 1, 1, 1, 1, 1])
      ⟨fr 291 [(0, pint .i64 win), (9, .ptr a 0), (11, pint .i64 n), (16, .ptr c 0), (17, pint .i64 k), (18, .list 1 []), (19, pint .i64 0), (20, .list 1 []), (21, pint .i64 0), (22, .list 1 (q.map pl)), (23, .list 1 (r.map pl))], Ha ++ Hc⟩ fin := by
  have hnm : True := trivial
  simp only [Try.f8, nav, Option.getD_some]
  obtain ⟨N, hN⟩ : ∃ N : Nat, N = 65537 := ⟨_, rfl⟩
  have l23 := lives_c G
  have wa := waiting_c G a sa Ha hEa
  have wc := waiting_c G c sc Hc hEc
  have e1 : (sa.wait.length : Int) = (n : Int) - k := by omega
  rw [e1] at wa
  rw [h2] at wc
  have e2 : min ((n : Int) - k) (win : Int) = ((q.length : Nat) : Int) := by omega
  have e3 : min (n : Int) (win : Int) = ((r.length : Nat) : Int) := by omega
  repeat' (first
    | (with_reducible apply W_seq_k; intro nx hnx)
    | (with_reducible first | refine wr 17179868943 ?_ | refine wd (id := 19) 17179868943 5 (.op 0 true (.op 1 true (.op 2 true (.op 3 true (.op 4 true (.op 5 true (.op 6 true (.op 7 true (.op 8 true (.op 9 true (.op 10 true (.op 11 true (.op 12 true (.op 13 false (.op 14 true (.done)))))))))))))))) (by kernel_rfl) ?_ | refine wd (id := 33) 17179868943 5 (.op 0 true (.op 1 true (.op 2 true (.op 3 true (.op 4 true (.op 5 true (.op 6 true (.op 7 true (.op 8 true (.op 9 true (.op 10 true (.op 11 true (.op 12 true (.op 13 false (.op 14 true (.done)))))))))))))))) (by kernel_rfl) ?_)
    | ((with_reducible first | (apply WL_op; intro nx hnx) | refine Ev_out ?_ | refine wc ?_ | (apply popsD_op; intro nx hnx) | (refine popsD_alt ?_ ?_; intro nx hnx) | (refine pf hnm fun nm hnm => ?_; try simp only [fmb] at hnm) | (refine pm hnm fun nm hnm => ?_; try simp only [fmb] at hnm)); try (simp (maxSteps := 2000000) (disch := omega) only [ev, ↓evp, PV.cells, PV.one, PV.mem?, Value.cells, simprocAttr, hnm, Try.tf0, Try.tf1, Try.tf3, Try.tf4, Try.tf5, Try.tf22, Try.tf28, Try.tf33, Try.tf34, Try.tf35, Try.tf43, Try.tf44, Try.tf53, Try.tf65, Try.call10, Try.call11, Try.call13, Try.call17, Try.call18, Try.call19, Try.call21, Try.call23, Try.call28, Try.call29, Try.call31, e2, e3, List.length_map, List.length_nil, List.flatten_replicate_singleton, ← hN]))
    | ((with_reducible first | apply W_block | apply W_scope | apply WL_nil | apply W_label | apply W_skip | apply W_exit | apply W_ret | apply popsD_done | exact popsD_stop) <;> try simp only [kks, simprocAttr])
    | (with_reducible apply pg <;> (intro hc; (try simp only [hcb, simprocAttr, ne_eq, forall_const] at hc); first | (exfalso; omega) | exact absurd trivial hc | skip))
    | (with_reducible apply hnx; clear hnx nx)
    | (with_reducible refine And.intro (by omega) ?_)
    | (with_reducible refine And.intro ?_ ?_)
    | (with_reducible refine pe (l23) ?_)
    | (((with_reducible refine pcall_q0 wa ?_); rintro _ _ ⟨rfl, hq⟩; rw [hq]; refine Ev_in ?_))
    | (((with_reducible refine pcall_q1 wc ?_); rintro _ _ ⟨rfl, hq⟩; rw [hq]; refine Ev_in ?_))
    | (((with_reducible refine pcall_q2 (send_big G a _ sa N (by omega) Ha hEa) ?_); rintro _ _ ⟨rfl, hq⟩; rw [hq]; refine Ev_in ?_))
    | (clear hnx nx; with_reducible apply hnx; clear hnx nx)
    | (clear hnx nx; clear hnx nx; with_reducible apply hnx; clear hnx nx))
  all_goals (refine hfin _ _ (Fin_ret1 rfl (Sub_nil _) ?_); simp only [cob, simprocAttr]; first | trivial | exact ⟨rfl, by trivial⟩ | (simp; done) | (simp; omega))
end Go.PM

namespace Go.PM
open Go.Proofs
theorem open_seal (key : UInt64) (c : List UInt8) : openF key (c ++ sealB key c) = (c, 0) := by
  have hl := sealB_len key c
  have hn : (c ++ sealB key c).length - 8 = c.length := by rw [List.length_append, hl]; omega
  unfold openF
  rw [if_neg (by rw [List.length_append, hl]; omega), hn, List.take_left' rfl, List.drop_left' rfl, if_pos rfl]
end Go.PM

namespace Go.PM
open Go.Proofs
theorem readF_pack (q a : Int) (c : List UInt8) (h1 : inR q) (h2 : inR a) (hq : 0 ≤ q) (ha : 0 ≤ a) (hc : c.length ≤ 65536) (h : 0 < q ∨ c.length = 0) : readF (packB q a c) = ((q, a, c), true) := by
  have g1 : gLs gI 1 (packB q a c) = ([q, a], (encL intB [q, a]).length, 0) := by
    refine gLs_enc (g := gI) (enc := intB) 1 [q, a] (bytesB c) (by omega) (by simp) ?_ ?_
    · intro x hx t
      simp only [List.mem_cons, List.not_mem_nil, or_false] at hx
      rcases hx with rfl | rfl
      · exact gI_intB h1 t
      · exact gI_intB h2 t
    · intro x hx
      simp [intB]
  have g2 : gS (bytesB c) = (c, (bytesB c).length, 0) := by
    have := gS_enc c [] (by omega)
    simpa using this
  have hd : (packB q a c).drop (encL intB [q, a]).length = bytesB c := by
    unfold packB
    exact List.drop_left' rfl
  have hX : readF (packB q a c) = if (gLs gI 1 (packB q a c)).2.2 ≠ 0 ∨ (gLs gI 1 (packB q a c)).1.length ≠ 2 then ((0, 0, []), false)
    else if (gS ((packB q a c).drop (gLs gI 1 (packB q a c)).2.1)).2.2 ≠ 0 ∨ (gLs gI 1 (packB q a c)).2.1 + (gS ((packB q a c).drop (gLs gI 1 (packB q a c)).2.1)).2.1 ≠ (packB q a c).length then ((0, 0, []), false)
    else (((gLs gI 1 (packB q a c)).1.getD 0 0, (gLs gI 1 (packB q a c)).1.getD 1 0, (gS ((packB q a c).drop (gLs gI 1 (packB q a c)).2.1)).1), okP ((gLs gI 1 (packB q a c)).1.getD 0 0, (gLs gI 1 (packB q a c)).1.getD 1 0, (gS ((packB q a c).drop (gLs gI 1 (packB q a c)).2.1)).1)) := rfl
  rw [hX, g1]
  simp only [hd, g2]
  rw [if_neg (by simp), if_neg (by simp [packB])]
  have hok : okP (q, a, c) = true := by
    simp only [okP, Bool.and_eq_true, Bool.or_eq_true, decide_eq_true_eq]
    exact ⟨⟨⟨hq, ha⟩, hc⟩, h⟩
  simp only [List.getD_cons_zero, List.getD_cons_succ, hok]
/-- A packet comes in. -/
theorem in_pack (s : LE) (q a : Nat) (c : List UInt8) (h1 : q ≤ 4000000000) (h2 : a ≤ 4000000000) (hc : c.length ≤ 65536) (h : 0 < q ∨ c.length = 0) :
    inL s (sealP s.key q a c) = (((takeL s (q, a, c)).1, 0), (takeL s (q, a, c)).2) := by
  have hr := readF_pack q a c ⟨by omega, by omega⟩ ⟨by omega, by omega⟩ (by omega) (by omega) hc (by omega)
  have ho : openF s.key (sealP s.key q a c) = (packB q a c, 0) := open_seal s.key (packB q a c)
  unfold inL
  rw [ho]
  simp only [hr]
  rw [if_neg (by omega), if_neg (by omega), if_neg (by simp)]
end Go.PM

namespace Go.PM
open Go.Proofs
/-- An end that holds the second message. -/
def twoA (key : UInt64) : LE := ⟨1, key, [], 0, 0, [(2, [1])], true, 0⟩
def twoB (key : UInt64) : LE := ⟨1, key, [], 0, 2, [], true, 0⟩
theorem two_in1 (key : UInt64) : inL (newL 1 key) (sealP key 2 0 [1]) = (([], 0), twoA key) := by
  have h := in_pack (newL 1 key) 2 0 [1] (by omega) (by omega) (by simp) (by simp)
  have h2 : takeL (newL 1 key) (((2 : Nat) : Int), ((0 : Nat) : Int), [1]) = ([], twoA key) := by
    unfold takeL
    simp only [Int.toNat_natCast]
    rw [if_neg (by simp [newL]), if_neg (by omega)]
    have e3 : ackL (newL 1 key) 0 = newL 1 key := by rw [ackL, if_neg (by simp [newL])]
    have e4 : holdL (newL 1 key) 2 [1] = twoA key := by
      rw [holdL, if_pos ⟨by simp [newL], rfl⟩]
      rfl
    rw [e3, e4, delL_none rfl]
  rw [h2] at h
  exact h
theorem two_in2 (key : UInt64) : inL (twoA key) (sealP key 1 0 [0]) = (([[0], [1]], 0), twoB key) := by
  have h := in_pack (twoA key) 1 0 [0] (by omega) (by omega) (by simp) (by simp)
  have h2 : takeL (twoA key) (((1 : Nat) : Int), ((0 : Nat) : Int), [0]) = ([[0], [1]], twoB key) := by
    unfold takeL
    simp only [Int.toNat_natCast]
    rw [if_neg (by simp [twoA]), if_neg (by omega)]
    have e3 : ackL (twoA key) 0 = twoA key := by rw [ackL, if_neg (by simp [twoA])]
    have e4 : holdL (twoA key) 1 [0] = ⟨1, key, [], 0, 0, [(2, [1]), (1, [0])], true, 0⟩ := by
      rw [holdL, if_pos ⟨by simp [twoA], rfl⟩]
      rfl
    rw [e3, e4, delL_some (b := [0]) (h' := [(2, [1])]) rfl, delL_some (b := [1]) (h' := []) rfl, delL_none rfl]
    rfl
  rw [h2] at h
  exact h
attribute [local irreducible] W PCalls pcall pcallI WL
set_option maxRecDepth 100000 in
set_option maxHeartbeats 8000000 in
theorem win_two (G : Globs) (fin : Exit → PState → Prop) (hfin : ∀ e σ, Fin Try.prog [.tmp 8] (fun res H => res = pbool true ∧ H = []) e σ → fin e σ) (a c : Int) (Ha Hc : Heap) (sa sc : LE) (hEa : IsEnd a sa Ha) (hEc : IsEnd c sc Hc) (n k win : Nat) (key : UInt64) (q r : List (List UInt8))
    (h1 : sa.wait.length = n - k) (hk : k ≤ n) (h2 : sc.wait.length = n) (hn : n ≤ 39) (hw : win ≤ 16) (hq : q.length = min (n - k) win) (hr : r.length = min n win) (hr0 : ∀ h : 1 < r.length, r[0] = sealP key 1 0 [0]) (hr1 : ∀ h : 1 < r.length, r[1] = sealP key 2 0 [1]) :
    W Try.prog G [] (nav (Try.f8.body.getD .skip) [1, 1, 1, 1, 1, 1, 1, 1, 1, 1, 1, 1, 1, 1, 1, 1, 1, 1])
      ⟨fr 291 [(0, pint .i64 win), (1, pq key), (9, .ptr a 0), (11, pint .i64 n), (16, .ptr c 0), (17, pint .i64 k), (18, .list 1 []), (19, pint .i64 0), (20, .list 1 []), (21, pint .i64 0), (22, .list 1 (q.map pl)), (23, .list 1 (r.map pl))], Ha ++ Hc⟩ fin := by
  have we := win_end G fin hfin a c Ha Hc sa sc hEa hEc n k win q r h1 hk h2 hn hw hq hr
  have hnm : True := trivial
  have n1 : PCalls Try.prog G 28 [.val (.int .i64 1), pq key] [] (fun res H => ∃ e, res = .tuple [.ptr e 0, pint .i64 0] ∧ IsEnd e (newL 1 key) H) := new_ok G 1 key (by omega)
  have l0 := sealP_len key 1 0 [0] ⟨by omega, by omega⟩ ⟨by omega, by omega⟩ (by simp)
  have l1 := sealP_len key 2 0 [1] ⟨by omega, by omega⟩ ⟨by omega, by omega⟩ (by simp)
  have t1 := two_in1 key
  have t2 := two_in2 key
  generalize sealP key 1 0 [0] = p0 at *
  generalize sealP key 2 0 [1] = p1 at *
  simp only [Try.f8, nav, Option.getD_some] at we ⊢
  repeat' (first
    | ((refine W_nd fun nd47 => ?_; with_reducible refine W_wk ?_ we))
    | (with_reducible apply W_seq_k; intro nx hnx)
    | (with_reducible first | refine wr 17179868943 ?_ | refine wd (id := 19) 17179868943 5 (.op 0 true (.op 1 true (.op 2 true (.op 3 true (.op 4 true (.op 5 true (.op 6 true (.op 7 true (.op 8 true (.op 9 true (.op 10 true (.op 11 true (.op 12 true (.op 13 false (.op 14 true (.done)))))))))))))))) (by kernel_rfl) ?_ | refine wd (id := 33) 17179868943 5 (.op 0 true (.op 1 true (.op 2 true (.op 3 true (.op 4 true (.op 5 true (.op 6 true (.op 7 true (.op 8 true (.op 9 true (.op 10 true (.op 11 true (.op 12 true (.op 13 false (.op 14 true (.done)))))))))))))))) (by kernel_rfl) ?_)
    | ((with_reducible first | (apply WL_op; intro nx hnx) | refine Ev_out ?_ | refine wc ?_ | (apply popsD_op; intro nx hnx) | (refine popsD_alt ?_ ?_; intro nx hnx) | (refine pf hnm fun nm hnm => ?_; try simp only [fmb] at hnm) | (refine pm hnm fun nm hnm => ?_; try simp only [fmb] at hnm)); try (simp (maxSteps := 2000000) (disch := omega) only [ev, ↓evp, PV.cells, PV.one, PV.mem?, Value.cells, Nat.reduceAdd, Nat.reduceMul, Nat.reduceSub, Nat.reduceLeDiff, Nat.reduceEqDiff, ↓reduceIte, reduceCtorEq, Nat.reduceLT, Nat.reducePow, Nat.reduceDiv, Nat.reduceMod, Nat.reduceBEq, Int.reduceLT, Int.reduceLE, Int.reduceToNat, Int.reduceAdd, Int.reduceSub, Int.reduceNeg, hnm, Try.tf0, Try.tf1, Try.tf3, Try.tf4, Try.tf5, Try.tf22, Try.tf28, Try.tf33, Try.tf34, Try.tf35, Try.tf43, Try.tf44, Try.tf53, Try.tf65, Try.call10, Try.call11, Try.call13, Try.call17, Try.call18, Try.call19, Try.call21, Try.call23, Try.call28, Try.call29, Try.call31, List.length_map]))
    | ((with_reducible first | apply W_block | apply W_scope | apply WL_nil | apply W_label | apply W_skip | apply W_exit | apply W_ret | apply popsD_done | exact popsD_stop) <;> try simp only [kks, Nat.reduceAdd, Nat.reduceMul, Nat.reduceSub, Nat.reduceLeDiff, Nat.reduceEqDiff, ↓reduceIte, reduceCtorEq, Nat.reduceLT, Nat.reducePow, Nat.reduceDiv, Nat.reduceMod, Nat.reduceBEq, Int.reduceLT, Int.reduceLE, Int.reduceToNat, Int.reduceAdd, Int.reduceSub, Int.reduceNeg])
    | (with_reducible apply pg <;> (intro hc; (try simp only [hcb, Nat.reduceAdd, Nat.reduceMul, Nat.reduceSub, Nat.reduceLeDiff, Nat.reduceEqDiff, ↓reduceIte, reduceCtorEq, Nat.reduceLT, Nat.reducePow, Nat.reduceDiv, Nat.reduceMod, Nat.reduceBEq, Int.reduceLT, Int.reduceLE, Int.reduceToNat, Int.reduceAdd, Int.reduceSub, Int.reduceNeg, ne_eq, forall_const] at hc); first | (exfalso; omega) | exact absurd trivial hc | skip))
    | (with_reducible apply hnx; clear hnx nx)
    | (with_reducible refine And.intro (by omega) ?_)
    | (with_reducible refine And.intro ?_ ?_)
    | (clear hnx nx; with_reducible apply hnx; clear hnx nx)
    | (clear hnx nx; clear hnx nx; with_reducible apply hnx; clear hnx nx))
  · have hlr : 1 < r.length := by
      omega
    have hr0 := hr0 hlr
    have hr1 := hr1 hlr
    refine pcall_k n1 ?_
    rintro _ Hd ⟨d, rfl, hEd⟩ -
    refine Ev_in ?_
    have i1 := in_k G t1 hEd (by omega) ⟨by simp [newL], by simp [newL], by simp [newL], by simp [newL]⟩
    simp only [List.map_nil] at i1
    repeat' (first
    | (with_reducible apply W_seq_k; intro nx hnx)
    | (with_reducible first | refine wr 17179868943 ?_ | refine wd (id := 19) 17179868943 5 (.op 0 true (.op 1 true (.op 2 true (.op 3 true (.op 4 true (.op 5 true (.op 6 true (.op 7 true (.op 8 true (.op 9 true (.op 10 true (.op 11 true (.op 12 true (.op 13 false (.op 14 true (.done)))))))))))))))) (by kernel_rfl) ?_ | refine wd (id := 33) 17179868943 5 (.op 0 true (.op 1 true (.op 2 true (.op 3 true (.op 4 true (.op 5 true (.op 6 true (.op 7 true (.op 8 true (.op 9 true (.op 10 true (.op 11 true (.op 12 true (.op 13 false (.op 14 true (.done)))))))))))))))) (by kernel_rfl) ?_)
    | ((with_reducible first | (apply WL_op; intro nx hnx) | refine Ev_out ?_ | refine wc ?_ | (apply popsD_op; intro nx hnx) | (refine popsD_alt ?_ ?_; intro nx hnx) | (refine pf hnm fun nm hnm => ?_; try simp only [fmb] at hnm) | (refine pm hnm fun nm hnm => ?_; try simp only [fmb] at hnm)); try (simp (maxSteps := 2000000) (disch := omega) only [ev, ↓evp, PV.cells, PV.one, PV.mem?, Value.cells, Nat.reduceAdd, Nat.reduceMul, Nat.reduceSub, Nat.reduceLeDiff, Nat.reduceEqDiff, ↓reduceIte, reduceCtorEq, Nat.reduceLT, Nat.reducePow, Nat.reduceDiv, Nat.reduceMod, Nat.reduceBEq, Int.reduceLT, Int.reduceLE, Int.reduceToNat, Int.reduceAdd, Int.reduceSub, Int.reduceNeg, hnm, Try.tf0, Try.tf1, Try.tf3, Try.tf4, Try.tf5, Try.tf22, Try.tf28, Try.tf33, Try.tf34, Try.tf35, Try.tf43, Try.tf44, Try.tf53, Try.tf65, Try.call10, Try.call11, Try.call13, Try.call17, Try.call18, Try.call19, Try.call21, Try.call23, Try.call28, Try.call29, Try.call31, List.length_map, hr1]))
    | ((with_reducible first | apply W_block | apply W_scope | apply WL_nil | apply W_label | apply W_skip | apply W_exit | apply W_ret | apply popsD_done | exact popsD_stop) <;> try simp only [kks, Nat.reduceAdd, Nat.reduceMul, Nat.reduceSub, Nat.reduceLeDiff, Nat.reduceEqDiff, ↓reduceIte, reduceCtorEq, Nat.reduceLT, Nat.reducePow, Nat.reduceDiv, Nat.reduceMod, Nat.reduceBEq, Int.reduceLT, Int.reduceLE, Int.reduceToNat, Int.reduceAdd, Int.reduceSub, Int.reduceNeg])
    | (with_reducible apply pg <;> (intro hc; (try simp only [hcb, Nat.reduceAdd, Nat.reduceMul, Nat.reduceSub, Nat.reduceLeDiff, Nat.reduceEqDiff, ↓reduceIte, reduceCtorEq, Nat.reduceLT, Nat.reducePow, Nat.reduceDiv, Nat.reduceMod, Nat.reduceBEq, Int.reduceLT, Int.reduceLE, Int.reduceToNat, Int.reduceAdd, Int.reduceSub, Int.reduceNeg, ne_eq, forall_const] at hc); first | (exfalso; omega) | exact absurd trivial hc | skip))
    | (with_reducible apply hnx; clear hnx nx)
    | (with_reducible refine And.intro (by omega) ?_)
    | (with_reducible refine And.intro ?_ ?_)
    | (((with_reducible refine pcall_q0 i1 ?_); rintro _ Hd1 ⟨rfl, hEd1⟩; refine Ev_in ?_))
    | (clear hnx nx; with_reducible apply hnx; clear hnx nx)
    | (clear hnx nx; clear hnx nx; with_reducible apply hnx; clear hnx nx))
    all_goals first
      | exact absurd trivial hc
      | skip
    clear i1 hEd
    obtain ⟨w1, m1, hd1⟩ := hEd1
    subst hd1
    refine pcall_q0 (copy_c G d w1 m1 (twoA key) (by simp [twoA]) (by simp [twoA])) ?_
    rintro _ _ ⟨o, w2, m2, rfl, rfl⟩
    have hEd : IsEnd d (twoA key) (endO d w1 m1 (twoA key)) := ⟨_, _, rfl⟩
    have hEo : IsEnd o (twoA key) (endO o w2 m2 (twoA key)) := ⟨_, _, rfl⟩
    generalize endO d w1 m1 (twoA key) = Hd at hEd ⊢
    generalize endO o w2 m2 (twoA key) = Ho at hEo ⊢
    rw [List.append_assoc]
    have ok2 : OkE (twoA key) := ⟨by simp [twoA], by simp [twoA], by simp [twoA], by simp [twoA]⟩
    have i2 := in_k G t2 hEd (by omega) ok2
    have i3 := in_k G t2 hEo (by omega) ok2
    simp only [List.map_cons, List.map_nil] at i2 i3
    refine Ev_in ?_
    repeat' (first
    | ((refine W_nd fun nd47 => ?_; with_reducible refine W_wk ?_ we))
    | (with_reducible apply W_seq_k; intro nx hnx)
    | (with_reducible first | refine wr 17179868943 ?_ | refine wd (id := 19) 17179868943 5 (.op 0 true (.op 1 true (.op 2 true (.op 3 true (.op 4 true (.op 5 true (.op 6 true (.op 7 true (.op 8 true (.op 9 true (.op 10 true (.op 11 true (.op 12 true (.op 13 false (.op 14 true (.done)))))))))))))))) (by kernel_rfl) ?_ | refine wd (id := 33) 17179868943 5 (.op 0 true (.op 1 true (.op 2 true (.op 3 true (.op 4 true (.op 5 true (.op 6 true (.op 7 true (.op 8 true (.op 9 true (.op 10 true (.op 11 true (.op 12 true (.op 13 false (.op 14 true (.done)))))))))))))))) (by kernel_rfl) ?_)
    | ((with_reducible first | (apply WL_op; intro nx hnx) | refine Ev_out ?_ | refine wc ?_ | (apply popsD_op; intro nx hnx) | (refine popsD_alt ?_ ?_; intro nx hnx) | (refine pf hnm fun nm hnm => ?_; try simp only [fmb] at hnm) | (refine pm hnm fun nm hnm => ?_; try simp only [fmb] at hnm)); try (simp (maxSteps := 2000000) (disch := omega) only [ev, ↓evp, PV.cells, PV.one, PV.mem?, Value.cells, Nat.reduceAdd, Nat.reduceMul, Nat.reduceSub, Nat.reduceLeDiff, Nat.reduceEqDiff, ↓reduceIte, reduceCtorEq, Nat.reduceLT, Nat.reducePow, Nat.reduceDiv, Nat.reduceMod, Nat.reduceBEq, Int.reduceLT, Int.reduceLE, Int.reduceToNat, Int.reduceAdd, Int.reduceSub, Int.reduceNeg, hnm, Try.tf0, Try.tf1, Try.tf3, Try.tf4, Try.tf5, Try.tf22, Try.tf28, Try.tf33, Try.tf34, Try.tf35, Try.tf43, Try.tf44, Try.tf53, Try.tf65, Try.call10, Try.call11, Try.call13, Try.call17, Try.call18, Try.call19, Try.call21, Try.call23, Try.call28, Try.call29, Try.call31, List.length_map, hr0, List.length_cons, List.length_nil]))
    | ((with_reducible first | apply W_block | apply W_scope | apply WL_nil | apply W_label | apply W_skip | apply W_exit | apply W_ret | apply popsD_done | exact popsD_stop) <;> try simp only [kks, Nat.reduceAdd, Nat.reduceMul, Nat.reduceSub, Nat.reduceLeDiff, Nat.reduceEqDiff, ↓reduceIte, reduceCtorEq, Nat.reduceLT, Nat.reducePow, Nat.reduceDiv, Nat.reduceMod, Nat.reduceBEq, Int.reduceLT, Int.reduceLE, Int.reduceToNat, Int.reduceAdd, Int.reduceSub, Int.reduceNeg])
    | (with_reducible apply pg <;> (intro hc; (try simp only [hcb, Nat.reduceAdd, Nat.reduceMul, Nat.reduceSub, Nat.reduceLeDiff, Nat.reduceEqDiff, ↓reduceIte, reduceCtorEq, Nat.reduceLT, Nat.reducePow, Nat.reduceDiv, Nat.reduceMod, Nat.reduceBEq, Int.reduceLT, Int.reduceLE, Int.reduceToNat, Int.reduceAdd, Int.reduceSub, Int.reduceNeg, ne_eq, forall_const] at hc); first | (exfalso; omega) | exact absurd trivial hc | skip))
    | (with_reducible apply hnx; clear hnx nx)
    | (with_reducible refine And.intro (by omega) ?_)
    | (with_reducible refine And.intro ?_ ?_)
    | (((with_reducible refine pcall_q0 i3 ?_); rintro _ Ho1 ⟨rfl, hEo1⟩; refine Ev_in ?_))
    | ((refine pcall_mid Ho Hd (Ha ++ Hc) rfl i2 ?_; rintro _ Hd1 ⟨rfl, hEd1⟩; refine Ev_in ?_))
    | (clear hnx nx; with_reducible apply hnx; clear hnx nx)
    | (clear hnx nx; clear hnx nx; with_reducible apply hnx; clear hnx nx))
    all_goals first
      | exact absurd trivial hc
      | skip
    refine Wk_fr (by simp only [wkb, Nat.reduceAdd, Nat.reduceMul, Nat.reduceSub, Nat.reduceLeDiff, Nat.reduceEqDiff, ↓reduceIte, reduceCtorEq, Nat.reduceLT, Nat.reducePow, Nat.reduceDiv, Nat.reduceMod, Nat.reduceBEq, Int.reduceLT, Int.reduceLE, Int.reduceToNat, Int.reduceAdd, Int.reduceSub, Int.reduceNeg]) ?_
    refine ⟨fun x hx => List.mem_append_right _ (List.mem_append_right _ hx), ?_⟩
    simp only [names, List.map_append] at nd47 ⊢
    exact (List.nodup_append.1 (List.nodup_append.1 nd47).2.1).2.1
  · refine Wk_fr (by simp only [wkb, Nat.reduceAdd, Nat.reduceMul, Nat.reduceSub, Nat.reduceLeDiff, Nat.reduceEqDiff, ↓reduceIte, reduceCtorEq, Nat.reduceLT, Nat.reducePow, Nat.reduceDiv, Nat.reduceMod, Nat.reduceBEq, Int.reduceLT, Int.reduceLE, Int.reduceToNat, Int.reduceAdd, Int.reduceSub, Int.reduceNeg]) ?_
    exact Sub_refl nd47
end Go.PM

namespace Go.PM
open Go.Proofs
/-- The packet with the number i. -/
def pkW (key : UInt64) (i : Nat) : List UInt8 := sealP key ((i + 1 : Nat) : Int) 0 [UInt8.ofNat i]
theorem pkW_len (key : UInt64) (i : Nat) (hi : i ≤ 1000) : (pkW key i).length ≤ 100048 := sealP_len key _ 0 _ ⟨by omega, by omega⟩ ⟨by omega, by omega⟩ (by simp)
theorem wrap_u8 (i : Nat) (hi : i < 256) : IntKind.u8.wrap (i : Int) = ((UInt8.ofNat i).toNat : Int) := by
  rw [UInt8.toNat_ofNat_of_lt' hi]
  simp [IntKind.wrap, IntKind.bits, IntKind.signed]
  omega
/-- The reference's packet. -/
theorem rpkW_c (G : Globs) (key : UInt64) (i : Nat) (hi : i ≤ 1000) : ∃ pb : List UInt8, PCalls Try.prog G 18 [.agg [pint .i64 ((i : Int) + 1), .val (.int .i64 0), .list 1 [pint .u8 ((UInt8.ofNat i).toNat : Int)]]] [] (fun res H => res = pl pb ∧ H = []) ∧
    PCalls Try.prog G 17 [pq key, pl pb] [] (fun res H => res = pl (pkW key i) ∧ H = []) := by
  have h1 : inR ((i + 1 : Nat) : Int) := ⟨by omega, by omega⟩
  have c1 := rbytesP_c G ((i + 1 : Nat) : Int) 0 [UInt8.ofNat i] h1 ⟨by omega, by omega⟩ (by simp)
  have c2 := rseal_c G key (packB ((i + 1 : Nat) : Int) 0 [UInt8.ofNat i]) (by
    have := packB_len ((i + 1 : Nat) : Int) 0 [UInt8.ofNat i] h1 ⟨by omega, by omega⟩ (by simp)
    omega)
  refine ⟨_, ?_, c2⟩
  push_cast at c1
  exact c1
attribute [local irreducible] W PCalls pcall pcallI WL
set_option maxRecDepth 100000 in
set_option maxHeartbeats 8000000 in
theorem win_r (G : Globs) (fin : Exit → PState → Prop) (hfin : ∀ e σ, Fin Try.prog [.tmp 8] (fun res H => res = pbool true ∧ H = []) e σ → fin e σ) (a c : Int) (Ha Hc : Heap) (sa sc : LE) (hEa : IsEnd a sa Ha) (hEc : IsEnd c sc Hc) (n k win : Nat) (key : UInt64) (q r : List (List UInt8))
    (h1 : sa.wait.length = n - k) (hk : k ≤ n) (h2 : sc.wait.length = n) (hn : n ≤ 39) (hw : win ≤ 16) (hq : q.length = min (n - k) win) (hr : r.length = min n win) (hri : ∀ (i : Nat) (h : i < r.length), r[i] = pkW key i) :
    W Try.prog G [] (nav (Try.f8.body.getD .skip) [1, 1, 1, 1, 1, 1, 1, 1, 1, 1, 1, 1, 1, 1, 1, 1, 1])
      ⟨fr 291 [(0, pint .i64 win), (1, pq key), (9, .ptr a 0), (11, pint .i64 n), (16, .ptr c 0), (17, pint .i64 k), (18, .list 1 []), (19, pint .i64 0), (20, .list 1 []), (21, pint .i64 0), (22, .list 1 (q.map pl)), (23, .list 1 (r.map pl))], Ha ++ Hc⟩ fin := by
  have we := win_two G fin hfin a c Ha Hc sa sc hEa hEc n k win key q r h1 hk h2 hn hw hq hr (fun h => hri 0 (by omega)) (fun h => hri 1 h)
  have hnm : True := trivial
  simp only [Try.f8, nav, Option.getD_some] at we ⊢
  have hrl : r.length ≤ 16 := by omega
  repeat' (first
    | (with_reducible apply W_seq_k; intro nx hnx)
    | (with_reducible first | refine wr 17179868943 ?_ | refine wd (id := 19) 17179868943 5 (.op 0 true (.op 1 true (.op 2 true (.op 3 true (.op 4 true (.op 5 true (.op 6 true (.op 7 true (.op 8 true (.op 9 true (.op 10 true (.op 11 true (.op 12 true (.op 13 false (.op 14 true (.done)))))))))))))))) (by kernel_rfl) ?_ | refine wd (id := 33) 17179868943 5 (.op 0 true (.op 1 true (.op 2 true (.op 3 true (.op 4 true (.op 5 true (.op 6 true (.op 7 true (.op 8 true (.op 9 true (.op 10 true (.op 11 true (.op 12 true (.op 13 false (.op 14 true (.done)))))))))))))))) (by kernel_rfl) ?_)
    | ((with_reducible first | (apply WL_op; intro nx hnx) | refine Ev_out ?_ | refine wc ?_ | (apply popsD_op; intro nx hnx) | (refine popsD_alt ?_ ?_; intro nx hnx) | (refine pf hnm fun nm hnm => ?_; try simp only [fmb] at hnm) | (refine pm hnm fun nm hnm => ?_; try simp only [fmb] at hnm)); try (simp (maxSteps := 2000000) (disch := omega) only [ev, ↓evp, PV.cells, PV.one, PV.mem?, Value.cells, Nat.reduceAdd, Nat.reduceMul, Nat.reduceSub, Nat.reduceLeDiff, Nat.reduceEqDiff, ↓reduceIte, reduceCtorEq, Nat.reduceLT, Nat.reducePow, Nat.reduceDiv, Nat.reduceMod, Nat.reduceBEq, Int.reduceLT, Int.reduceLE, Int.reduceToNat, Int.reduceAdd, Int.reduceSub, Int.reduceNeg, hnm, Try.tf0, Try.tf1, Try.tf3, Try.tf4, Try.tf5, Try.tf22, Try.tf28, Try.tf33, Try.tf34, Try.tf35, Try.tf43, Try.tf44, Try.tf53, Try.tf65, Try.call10, Try.call11, Try.call13, Try.call17, Try.call18, Try.call19, Try.call21, Try.call23, Try.call28, Try.call29, Try.call31]))
    | ((with_reducible first | apply W_block | apply W_scope | apply WL_nil | apply W_label | apply W_skip | apply W_exit | apply W_ret | apply popsD_done | exact popsD_stop) <;> try simp only [kks, Nat.reduceAdd, Nat.reduceMul, Nat.reduceSub, Nat.reduceLeDiff, Nat.reduceEqDiff, ↓reduceIte, reduceCtorEq, Nat.reduceLT, Nat.reducePow, Nat.reduceDiv, Nat.reduceMod, Nat.reduceBEq, Int.reduceLT, Int.reduceLE, Int.reduceToNat, Int.reduceAdd, Int.reduceSub, Int.reduceNeg])
    | (with_reducible apply pg <;> (intro hc; (try simp only [hcb, Nat.reduceAdd, Nat.reduceMul, Nat.reduceSub, Nat.reduceLeDiff, Nat.reduceEqDiff, ↓reduceIte, reduceCtorEq, Nat.reduceLT, Nat.reducePow, Nat.reduceDiv, Nat.reduceMod, Nat.reduceBEq, Int.reduceLT, Int.reduceLE, Int.reduceToNat, Int.reduceAdd, Int.reduceSub, Int.reduceNeg, ne_eq, forall_const] at hc); first | (exfalso; omega) | exact absurd trivial hc | skip))
    | (with_reducible apply hnx; clear hnx nx)
    | (with_reducible refine And.intro (by omega) ?_)
    | (with_reducible refine And.intro ?_ ?_)
    | (clear hnx nx; with_reducible apply hnx; clear hnx nx)
    | (clear hnx nx; clear hnx nx; with_reducible apply hnx; clear hnx nx))
  refine W_nd fun nd => ?_
  refine W_loop_k (fun z τ => ∃ (i : Nat), i ≤ r.length ∧ z = r.length - i ∧ τ = ⟨fr 291 [(24, pint .i64 i), (0, pint .i64 win), (1, pq key), (9, .ptr a 0), (11, pint .i64 n), (16, .ptr c 0), (17, pint .i64 k), (18, .list 1 []), (19, pint .i64 0), (20, .list 1 []), (21, pint .i64 0), (22, .list 1 (q.map pl)), (23, .list 1 (r.map pl))], Ha ++ Hc⟩) r.length
    ⟨fr 291 [(24, pint .i64 (0 : Nat)), (0, pint .i64 win), (1, pq key), (9, .ptr a 0), (11, pint .i64 n), (16, .ptr c 0), (17, pint .i64 k), (18, .list 1 []), (19, pint .i64 0), (20, .list 1 []), (21, pint .i64 0), (22, .list 1 (q.map pl)), (23, .list 1 (r.map pl))], Ha ++ Hc⟩ (by
    refine Wk_fr (by simp only [wkb, Nat.reduceAdd, Nat.reduceMul, Nat.reduceSub, Nat.reduceLeDiff, Nat.reduceEqDiff, ↓reduceIte, reduceCtorEq, Nat.reduceLT, Nat.reducePow, Nat.reduceDiv, Nat.reduceMod, Nat.reduceBEq, Int.reduceLT, Int.reduceLE, Int.reduceToNat, Int.reduceAdd, Int.reduceSub, Int.reduceNeg]) ?_
    exact Sub_refl nd) ⟨0, by omega, by omega, rfl⟩ ?_
  rintro z τ ⟨i, hi, rfl, rfl⟩ lp hlp
  by_cases hil : i < r.length
  · have hwb := wrap_u8 i (by omega)
    have hg := hri i hil
    obtain ⟨pb, c1, c2⟩ := rpkW_c G key i (by omega)
    have c3 := same_c G (pkW key i) (pkW key i) (by
      have := pkW_len key i (by omega)
      omega)
    simp only [decide_true] at c3
    repeat' (first
    | (with_reducible apply W_seq_k; intro nx hnx)
    | (with_reducible first | refine wr 17179868943 ?_ | refine wd (id := 19) 17179868943 5 (.op 0 true (.op 1 true (.op 2 true (.op 3 true (.op 4 true (.op 5 true (.op 6 true (.op 7 true (.op 8 true (.op 9 true (.op 10 true (.op 11 true (.op 12 true (.op 13 false (.op 14 true (.done)))))))))))))))) (by kernel_rfl) ?_ | refine wd (id := 33) 17179868943 5 (.op 0 true (.op 1 true (.op 2 true (.op 3 true (.op 4 true (.op 5 true (.op 6 true (.op 7 true (.op 8 true (.op 9 true (.op 10 true (.op 11 true (.op 12 true (.op 13 false (.op 14 true (.done)))))))))))))))) (by kernel_rfl) ?_)
    | (with_reducible refine WL_born (by simp) rfl (by simp) ?_; simp only [elemsOf, nl, bir, Nat.reduceAdd, Nat.reduceMul, Nat.reduceSub, Nat.reduceLeDiff, Nat.reduceEqDiff, ↓reduceIte, reduceCtorEq, Nat.reduceLT, Nat.reducePow, Nat.reduceDiv, Nat.reduceMod, Nat.reduceBEq, Int.reduceLT, Int.reduceLE, Int.reduceToNat, Int.reduceAdd, Int.reduceSub, Int.reduceNeg])
    | (with_reducible refine WL_bornH (by simp) (by simp) ?_ ?_ ?_; (· simp [frz, frz1, hnm]); (· simp [frz1, hnm, PV.one, Value.oneCell']); simp only [elemsOf, nl, bir, Nat.reduceAdd, Nat.reduceMul, Nat.reduceSub, Nat.reduceLeDiff, Nat.reduceEqDiff, ↓reduceIte, reduceCtorEq, Nat.reduceLT, Nat.reducePow, Nat.reduceDiv, Nat.reduceMod, Nat.reduceBEq, Int.reduceLT, Int.reduceLE, Int.reduceToNat, Int.reduceAdd, Int.reduceSub, Int.reduceNeg])
    | ((with_reducible first | (apply WL_op; intro nx hnx) | refine Ev_out ?_ | refine wc ?_ | (apply popsD_op; intro nx hnx) | (refine popsD_alt ?_ ?_; intro nx hnx) | (refine pf hnm fun nm hnm => ?_; try simp only [fmb] at hnm) | (refine pborn_im ?_; simp only [elemsOf, nl, bir, Nat.reduceAdd, Nat.reduceMul, Nat.reduceSub, Nat.reduceLeDiff, Nat.reduceEqDiff, ↓reduceIte, reduceCtorEq, Nat.reduceLT, Nat.reducePow, Nat.reduceDiv, Nat.reduceMod, Nat.reduceBEq, Int.reduceLT, Int.reduceLE, Int.reduceToNat, Int.reduceAdd, Int.reduceSub, Int.reduceNeg])); try (simp (maxSteps := 2000000) (disch := omega) only [ev, ↓evp, PV.cells, PV.one, PV.mem?, Value.cells, Nat.reduceAdd, Nat.reduceMul, Nat.reduceSub, Nat.reduceLeDiff, Nat.reduceEqDiff, ↓reduceIte, reduceCtorEq, Nat.reduceLT, Nat.reducePow, Nat.reduceDiv, Nat.reduceMod, Nat.reduceBEq, Int.reduceLT, Int.reduceLE, Int.reduceToNat, Int.reduceAdd, Int.reduceSub, Int.reduceNeg, hnm, Try.tf0, Try.tf1, Try.tf3, Try.tf4, Try.tf5, Try.tf22, Try.tf28, Try.tf33, Try.tf34, Try.tf35, Try.tf43, Try.tf44, Try.tf53, Try.tf65, Try.call10, Try.call11, Try.call13, Try.call17, Try.call18, Try.call19, Try.call21, Try.call23, Try.call28, Try.call29, Try.call31, List.length_map, hwb, hg]))
    | ((with_reducible first | apply W_block | apply W_scope | apply WL_nil | apply W_label | apply W_skip | apply W_exit | apply W_ret | apply popsD_done | exact popsD_stop) <;> try simp only [kks, Nat.reduceAdd, Nat.reduceMul, Nat.reduceSub, Nat.reduceLeDiff, Nat.reduceEqDiff, ↓reduceIte, reduceCtorEq, Nat.reduceLT, Nat.reducePow, Nat.reduceDiv, Nat.reduceMod, Nat.reduceBEq, Int.reduceLT, Int.reduceLE, Int.reduceToNat, Int.reduceAdd, Int.reduceSub, Int.reduceNeg])
    | (with_reducible apply pg <;> (intro hc; (try simp only [hcb, Nat.reduceAdd, Nat.reduceMul, Nat.reduceSub, Nat.reduceLeDiff, Nat.reduceEqDiff, ↓reduceIte, reduceCtorEq, Nat.reduceLT, Nat.reducePow, Nat.reduceDiv, Nat.reduceMod, Nat.reduceBEq, Int.reduceLT, Int.reduceLE, Int.reduceToNat, Int.reduceAdd, Int.reduceSub, Int.reduceNeg, ne_eq, forall_const] at hc); first | (exfalso; omega) | exact absurd trivial hc | skip))
    | (with_reducible apply hnx; clear hnx nx)
    | (with_reducible refine And.intro (by omega) ?_)
    | (with_reducible refine And.intro ?_ ?_)
    | (with_reducible refine pe (c1) ?_)
    | (with_reducible refine pe (c2) ?_)
    | (with_reducible refine pe (c3) ?_)
    | (clear hnx nx; with_reducible apply hnx; clear hnx nx)
    | (clear hnx nx; clear hnx nx; with_reducible apply hnx; clear hnx nx))
    all_goals first
      | exact absurd trivial hc
      | (exfalso
         omega)
      | skip
    refine hlp _ (r.length - (i + 1)) _ (by omega) ?_ ⟨i + 1, by omega, rfl, rfl⟩
    refine Wk_fr (by simp only [wkb, Nat.reduceAdd, Nat.reduceMul, Nat.reduceSub, Nat.reduceLeDiff, Nat.reduceEqDiff, ↓reduceIte, reduceCtorEq, Nat.reduceLT, Nat.reducePow, Nat.reduceDiv, Nat.reduceMod, Nat.reduceBEq, Int.reduceLT, Int.reduceLE, Int.reduceToNat, Int.reduceAdd, Int.reduceSub, Int.reduceNeg]) ?_
    exact Sub_refl nd
  · have hi2 : i = r.length := by omega
    subst hi2
    clear hlp
    repeat' (first
    | ((with_reducible refine W_wk ?_ we))
    | (with_reducible apply W_seq_k; intro nx hnx)
    | (with_reducible first | refine wr 17179868943 ?_ | refine wd (id := 19) 17179868943 5 (.op 0 true (.op 1 true (.op 2 true (.op 3 true (.op 4 true (.op 5 true (.op 6 true (.op 7 true (.op 8 true (.op 9 true (.op 10 true (.op 11 true (.op 12 true (.op 13 false (.op 14 true (.done)))))))))))))))) (by kernel_rfl) ?_ | refine wd (id := 33) 17179868943 5 (.op 0 true (.op 1 true (.op 2 true (.op 3 true (.op 4 true (.op 5 true (.op 6 true (.op 7 true (.op 8 true (.op 9 true (.op 10 true (.op 11 true (.op 12 true (.op 13 false (.op 14 true (.done)))))))))))))))) (by kernel_rfl) ?_)
    | ((with_reducible first | (apply WL_op; intro nx hnx) | refine Ev_out ?_ | refine wc ?_ | (apply popsD_op; intro nx hnx) | (refine popsD_alt ?_ ?_; intro nx hnx) | (refine pf hnm fun nm hnm => ?_; try simp only [fmb] at hnm) | (refine pm hnm fun nm hnm => ?_; try simp only [fmb] at hnm)); try (simp (maxSteps := 2000000) (disch := omega) only [ev, ↓evp, PV.cells, PV.one, PV.mem?, Value.cells, Nat.reduceAdd, Nat.reduceMul, Nat.reduceSub, Nat.reduceLeDiff, Nat.reduceEqDiff, ↓reduceIte, reduceCtorEq, Nat.reduceLT, Nat.reducePow, Nat.reduceDiv, Nat.reduceMod, Nat.reduceBEq, Int.reduceLT, Int.reduceLE, Int.reduceToNat, Int.reduceAdd, Int.reduceSub, Int.reduceNeg, hnm, Try.tf0, Try.tf1, Try.tf3, Try.tf4, Try.tf5, Try.tf22, Try.tf28, Try.tf33, Try.tf34, Try.tf35, Try.tf43, Try.tf44, Try.tf53, Try.tf65, Try.call10, Try.call11, Try.call13, Try.call17, Try.call18, Try.call19, Try.call21, Try.call23, Try.call28, Try.call29, Try.call31, List.length_map]))
    | ((with_reducible first | apply W_block | apply W_scope | apply WL_nil | apply W_label | apply W_skip | apply W_exit | apply W_ret | apply popsD_done | exact popsD_stop) <;> try simp only [kks, Nat.reduceAdd, Nat.reduceMul, Nat.reduceSub, Nat.reduceLeDiff, Nat.reduceEqDiff, ↓reduceIte, reduceCtorEq, Nat.reduceLT, Nat.reducePow, Nat.reduceDiv, Nat.reduceMod, Nat.reduceBEq, Int.reduceLT, Int.reduceLE, Int.reduceToNat, Int.reduceAdd, Int.reduceSub, Int.reduceNeg])
    | (with_reducible apply pg <;> (intro hc; (try simp only [hcb, Nat.reduceAdd, Nat.reduceMul, Nat.reduceSub, Nat.reduceLeDiff, Nat.reduceEqDiff, ↓reduceIte, reduceCtorEq, Nat.reduceLT, Nat.reducePow, Nat.reduceDiv, Nat.reduceMod, Nat.reduceBEq, Int.reduceLT, Int.reduceLE, Int.reduceToNat, Int.reduceAdd, Int.reduceSub, Int.reduceNeg, ne_eq, forall_const] at hc); first | (exfalso; omega) | exact absurd trivial hc | skip))
    | (with_reducible apply hnx; clear hnx nx)
    | (with_reducible refine And.intro (by omega) ?_)
    | (with_reducible refine And.intro ?_ ?_)
    | (clear hnx nx; with_reducible apply hnx; clear hnx nx)
    | (clear hnx nx; clear hnx nx; with_reducible apply hnx; clear hnx nx))
    all_goals first
      | exact absurd trivial hc
      | (exfalso
         omega)
      | skip
    refine Wk_fr (by simp only [wkb, Nat.reduceAdd, Nat.reduceMul, Nat.reduceSub, Nat.reduceLeDiff, Nat.reduceEqDiff, ↓reduceIte, reduceCtorEq, Nat.reduceLT, Nat.reducePow, Nat.reduceDiv, Nat.reduceMod, Nat.reduceBEq, Int.reduceLT, Int.reduceLE, Int.reduceToNat, Int.reduceAdd, Int.reduceSub, Int.reduceNeg]) ?_
    exact Sub_refl nd
end Go.PM

namespace Go.PM
open Go.Proofs
/-- An end to which n messages were given. -/
def winS (win : Nat) (key : UInt64) (n : Nat) : LE := ⟨win, key, (List.range n).map fun i => [UInt8.ofNat i], 0, 0, [], false, 0⟩
theorem winS_len (win : Nat) (key : UInt64) (n : Nat) : (winS win key n).wait.length = n := by simp [winS]
theorem winS_pkt (win : Nat) (key : UInt64) (n i : Nat) (hi : i < n) : pktL (winS win key n) i = pkW key i := by
  have h : (winS win key n).wait.getD i [] = [UInt8.ofNat i] := by simp [winS, List.getD_eq_getElem?_getD, hi]
  rw [pktL, h, pkW]
  simp [winS]
theorem outL_ok {s : LE} (h : s.owing = false) : outL s = (outP s, s) := by
  rw [outL, if_neg (by rw [h]; simp)]
  cases s
  simp only at h
  rw [h]
theorem outP_len (s : LE) : (outP s).length = min s.wait.length s.win := by simp [outP]
theorem winS_ack1 (win : Nat) (key : UInt64) (n : Nat) (hn : n ≤ 39) : inL (winS win key n) (sealP key 0 ((n + 1 : Nat) : Int) []) = (([], 0), winS win key n) := by
  have h := in_pack (winS win key n) 0 (n + 1) [] (by omega) (by omega) (by simp) (by simp)
  have h2 : takeL (winS win key n) (((0 : Nat) : Int), ((n + 1 : Nat) : Int), []) = ([], winS win key n) := by
    unfold takeL
    simp only [Int.toNat_natCast]
    rw [if_pos (.inl (by simp [winS]))]
  rw [h2] at h
  exact h
theorem winS_ack2 (win : Nat) (key : UInt64) (n k : Nat) (hn : n ≤ 39) (hk : k ≤ n) : inL (winS win key n) (sealP key 0 (k : Int) []) = (([], 0), ackL (winS win key n) k) := by
  have h := in_pack (winS win key n) 0 k [] (by omega) (by omega) (by simp) (by simp)
  have h2 : takeL (winS win key n) (((0 : Nat) : Int), (k : Int), []) = ([], ackL (winS win key n) k) := by
    unfold takeL
    simp only [Int.toNat_natCast]
    rw [if_neg (by simp [winS]; omega), if_pos trivial]
  rw [h2] at h
  exact h
theorem ackL_win (win : Nat) (key : UInt64) (n k : Nat) (hk : k ≤ n) : (ackL (winS win key n) k).wait.length = n - k ∧ (ackL (winS win key n) k).owing = false ∧ (ackL (winS win key n) k).win = win ∧ (ackL (winS win key n) k).acked = k ∧
    (ackL (winS win key n) k).got = 0 ∧ (ackL (winS win key n) k).held = [] ∧ (ackL (winS win key n) k).forged = 0 ∧ ∀ b ∈ (ackL (winS win key n) k).wait, b.length ≤ 65536 := by
  have hb : ∀ b ∈ (winS win key n).wait, b.length ≤ 65536 := by
    intro b hb
    obtain ⟨i, _, rfl⟩ := List.mem_map.1 hb
    simp
  rw [ackL]
  split
  · refine ⟨by simp [winS], rfl, rfl, rfl, rfl, rfl, rfl, fun b h => hb b (List.mem_of_mem_drop h)⟩
  · rename_i h
    have : k = 0 := by simp [winS] at h; exact h
    subst this
    exact ⟨by simp [winS], rfl, rfl, rfl, rfl, rfl, rfl, hb⟩
/-- The reference's acknowledgement. -/
theorem rack_c (G : Globs) (key : UInt64) (x : Nat) (hx : x ≤ 1000) : ∃ pb : List UInt8, PCalls Try.prog G 18 [.agg [.val (.int .i64 0), pint .i64 (x : Int), pnil]] [] (fun res H => res = pl pb ∧ H = []) ∧
    PCalls Try.prog G 17 [pq key, pl pb] [] (fun res H => res = pl (sealP key 0 (x : Int) []) ∧ H = []) := by
  have h1 : inR (x : Int) := ⟨by omega, by omega⟩
  have c1 := PCalls.arg1 (rep_pk _ _) (rbytesP_c G 0 (x : Int) [] ⟨by omega, by omega⟩ h1 (by simp))
  have c2 := rseal_c G key (packB 0 (x : Int) []) (by
    have := packB_len 0 (x : Int) [] ⟨by omega, by omega⟩ h1 (by simp)
    omega)
  exact ⟨_, c1, c2⟩
section
variable {P : Program} {G : Globs} {f : List PV} {fn : FuncId} {args : List PV} {R : PV → Heap → Prop} {d : Option Tmp} {K : PState → Prop} {A : Heap}
theorem pcall_q (hc : PCalls P G fn args A R) (hk : ∀ res H, R res H → K (PState.put ⟨f, H⟩ d res)) : @pcallI false P G ⟨f, A⟩ d fn args ⟨K⟩ :=
  pcall_mid [] A [] (by simp) hc (fun res H h => by simpa using hk res H h)
end
attribute [local irreducible] W PCalls pcall pcallI WL
set_option maxRecDepth 100000 in
set_option maxHeartbeats 8000000 in
theorem win_mid (G : Globs) (fin : Exit → PState → Prop) (hfin : ∀ e σ, Fin Try.prog [.tmp 8] (fun res H => res = pbool true ∧ H = []) e σ → fin e σ) (a w m np : Int) (n win : Nat) (key : UInt64) (ack : Int) (hack : inR ack)
    (hn : n ≤ 39) (hw : win ≤ 16) :
    W Try.prog G [] (nav (Try.f8.body.getD .skip) [1, 1, 1, 1, 1, 1, 1, 1, 1, 1])
      ⟨fr 291 [(0, pint .i64 win), (1, pq key), (3, pint .i64 ack), (9, .ptr a 0), (11, pint .i64 n), (14, .row np 1 (min n win))], endO a w m (winS win key n)⟩ fin := by
  have hnm : True := trivial
  obtain ⟨mn, hmn⟩ : ∃ mn, mn = min n win := ⟨_, rfl⟩
  have hmin : min (n : Int) (win : Int) = (mn : Int) := by omega
  rw [← hmn]
  have c1 := copy_c G a w m (winS win key n) (by rw [winS_len]; omega) (by simp [winS])
  have c2 := around_c G ack (n + 1) (by omega) (by omega) hack
  have hk : arN ack (n + 1) ≤ n := by
    have := arN_lt ack (n + 1) (by omega)
    omega
  generalize arN ack (n + 1) = k at *
  push_cast at c2
  obtain ⟨e1, e2, e3, e4, e5, e6, e7, e8⟩ := ackL_win win key n k hk
  obtain ⟨s2, hs2⟩ : ∃ s2, s2 = ackL (winS win key n) k := ⟨_, rfl⟩
  rw [← hs2] at e1 e2 e3 e4 e5 e6 e7 e8
  have ok2 : OkE s2 := ⟨by omega, by omega, by rw [e5, e6]; simp, by omega⟩
  have hW1 : ∀ b ∈ (winS win key n).wait, b.length ≤ 65536 := by
    intro b hb
    obtain ⟨i, _, rfl⟩ := List.mem_map.1 hb
    simp
  have lr : (outP (winS win key n)).length = min n win := by rw [outP_len, winS_len]; rfl
  have lq : (outP s2).length = min (n - k) win := by rw [outP_len, e1, e3]
  have we := fun (c : Int) (Ha Hc : Heap) (hEa : IsEnd a s2 Ha) (hEc : IsEnd c (winS win key n) Hc) =>
    win_r G fin hfin a c Ha Hc s2 (winS win key n) hEa hEc n k win key (outP s2) (outP (winS win key n)) e1 hk (winS_len win key n) hn hw lq lr (fun i h => by
      rw [lr] at h
      simp only [outP, List.getElem_map, List.getElem_range]
      exact winS_pkt win key n i (by omega))
  simp only [Try.f8, nav, Option.getD_some] at we ⊢
  repeat' (first
    | (with_reducible apply W_seq_k; intro nx hnx)
    | (with_reducible first | refine wr 17179868943 ?_ | refine wd (id := 19) 17179868943 5 (.op 0 true (.op 1 true (.op 2 true (.op 3 true (.op 4 true (.op 5 true (.op 6 true (.op 7 true (.op 8 true (.op 9 true (.op 10 true (.op 11 true (.op 12 true (.op 13 false (.op 14 true (.done)))))))))))))))) (by kernel_rfl) ?_ | refine wd (id := 33) 17179868943 5 (.op 0 true (.op 1 true (.op 2 true (.op 3 true (.op 4 true (.op 5 true (.op 6 true (.op 7 true (.op 8 true (.op 9 true (.op 10 true (.op 11 true (.op 12 true (.op 13 false (.op 14 true (.done)))))))))))))))) (by kernel_rfl) ?_)
    | ((with_reducible first | (apply WL_op; intro nx hnx) | refine Ev_out ?_ | refine wc ?_ | (apply popsD_op; intro nx hnx) | (refine popsD_alt ?_ ?_; intro nx hnx) | (refine pf hnm fun nm hnm => ?_; try simp only [fmb] at hnm) | (refine pm hnm fun nm hnm => ?_; try simp only [fmb] at hnm)); try (simp (maxSteps := 2000000) (disch := omega) only [ev, ↓evp, PV.cells, PV.one, PV.mem?, Value.cells, Nat.reduceAdd, Nat.reduceMul, Nat.reduceSub, Nat.reduceLeDiff, Nat.reduceEqDiff, ↓reduceIte, reduceCtorEq, Nat.reduceLT, Nat.reducePow, Nat.reduceDiv, Nat.reduceMod, Nat.reduceBEq, Int.reduceLT, Int.reduceLE, Int.reduceToNat, Int.reduceAdd, Int.reduceSub, Int.reduceNeg, hnm, Try.tf0, Try.tf1, Try.tf3, Try.tf4, Try.tf5, Try.tf22, Try.tf28, Try.tf33, Try.tf34, Try.tf35, Try.tf43, Try.tf44, Try.tf53, Try.tf65, Try.call10, Try.call11, Try.call13, Try.call17, Try.call18, Try.call19, Try.call21, Try.call23, Try.call28, Try.call29, Try.call31]))
    | ((with_reducible first | apply W_block | apply W_scope | apply WL_nil | apply W_label | apply W_skip | apply W_exit | apply W_ret | apply popsD_done | exact popsD_stop) <;> try simp only [kks, Nat.reduceAdd, Nat.reduceMul, Nat.reduceSub, Nat.reduceLeDiff, Nat.reduceEqDiff, ↓reduceIte, reduceCtorEq, Nat.reduceLT, Nat.reducePow, Nat.reduceDiv, Nat.reduceMod, Nat.reduceBEq, Int.reduceLT, Int.reduceLE, Int.reduceToNat, Int.reduceAdd, Int.reduceSub, Int.reduceNeg])
    | (with_reducible apply pg <;> (intro hc; (try simp only [hcb, Nat.reduceAdd, Nat.reduceMul, Nat.reduceSub, Nat.reduceLeDiff, Nat.reduceEqDiff, ↓reduceIte, reduceCtorEq, Nat.reduceLT, Nat.reducePow, Nat.reduceDiv, Nat.reduceMod, Nat.reduceBEq, Int.reduceLT, Int.reduceLE, Int.reduceToNat, Int.reduceAdd, Int.reduceSub, Int.reduceNeg, ne_eq, forall_const] at hc); first | (exfalso; omega) | exact absurd trivial hc | skip))
    | (with_reducible apply hnx; clear hnx nx)
    | (with_reducible refine And.intro (by omega) ?_)
    | (with_reducible refine And.intro ?_ ?_)
    | (clear hnx nx; with_reducible apply hnx; clear hnx nx)
    | (clear hnx nx; clear hnx nx; with_reducible apply hnx; clear hnx nx))
  refine pcall_q c1 ?_
  rintro _ _ ⟨c, wC, mC, rfl, rfl⟩
  have hEc : IsEnd c (winS win key n) (endO c wC mC (winS win key n)) := ⟨_, _, rfl⟩
  have hEa : IsEnd a (winS win key n) (endO a w m (winS win key n)) := ⟨_, _, rfl⟩
  generalize endO c wC mC (winS win key n) = Hc at hEc ⊢
  generalize endO a w m (winS win key n) = Ha at hEa ⊢
  have ok1 : OkE (winS win key n) := ⟨by rw [winS_len]; omega, by rw [winS_len]; simp [winS]; omega, by simp [winS], by simp [winS]⟩
  obtain ⟨pb1, r1, r2⟩ := rack_c G key (n + 1) (by omega)
  obtain ⟨pb2, r3, r4⟩ := rack_c G key k (by omega)
  have a1 := winS_ack1 win key n hn
  have a2 := winS_ack2 win key n k hn hk
  have l1 := sealP_len key 0 ((n + 1 : Nat) : Int) [] ⟨by omega, by omega⟩ ⟨by omega, by omega⟩ (by simp)
  have l2 := sealP_len key 0 (k : Int) [] ⟨by omega, by omega⟩ ⟨by omega, by omega⟩ (by simp)
  generalize sealP key 0 ((n + 1 : Nat) : Int) [] = pa at *
  generalize sealP key 0 (k : Int) [] = pk at *
  push_cast at r1
  have i1 := in_k G a1 hEa (by omega) ok1
  simp only [List.map_nil] at i1
  refine Ev_in ?_
  repeat' (first
    | (with_reducible apply W_seq_k; intro nx hnx)
    | (with_reducible first | refine wr 17179868943 ?_ | refine wd (id := 19) 17179868943 5 (.op 0 true (.op 1 true (.op 2 true (.op 3 true (.op 4 true (.op 5 true (.op 6 true (.op 7 true (.op 8 true (.op 9 true (.op 10 true (.op 11 true (.op 12 true (.op 13 false (.op 14 true (.done)))))))))))))))) (by kernel_rfl) ?_ | refine wd (id := 33) 17179868943 5 (.op 0 true (.op 1 true (.op 2 true (.op 3 true (.op 4 true (.op 5 true (.op 6 true (.op 7 true (.op 8 true (.op 9 true (.op 10 true (.op 11 true (.op 12 true (.op 13 false (.op 14 true (.done)))))))))))))))) (by kernel_rfl) ?_)
    | ((with_reducible first | (apply WL_op; intro nx hnx) | refine Ev_out ?_ | refine wc ?_ | (apply popsD_op; intro nx hnx) | (refine popsD_alt ?_ ?_; intro nx hnx) | (refine pf hnm fun nm hnm => ?_; try simp only [fmb] at hnm) | (refine pm hnm fun nm hnm => ?_; try simp only [fmb] at hnm)); try (simp (maxSteps := 2000000) (disch := omega) only [ev, ↓evp, PV.cells, PV.one, PV.mem?, Value.cells, Nat.reduceAdd, Nat.reduceMul, Nat.reduceSub, Nat.reduceLeDiff, Nat.reduceEqDiff, ↓reduceIte, reduceCtorEq, Nat.reduceLT, Nat.reducePow, Nat.reduceDiv, Nat.reduceMod, Nat.reduceBEq, Int.reduceLT, Int.reduceLE, Int.reduceToNat, Int.reduceAdd, Int.reduceSub, Int.reduceNeg, hnm, Try.tf0, Try.tf1, Try.tf3, Try.tf4, Try.tf5, Try.tf22, Try.tf28, Try.tf33, Try.tf34, Try.tf35, Try.tf43, Try.tf44, Try.tf53, Try.tf65, Try.call10, Try.call11, Try.call13, Try.call17, Try.call18, Try.call19, Try.call21, Try.call23, Try.call28, Try.call29, Try.call31, hmin, bne_self_eq_false]))
    | ((with_reducible first | apply W_block | apply W_scope | apply WL_nil | apply W_label | apply W_skip | apply W_exit | apply W_ret | apply popsD_done | exact popsD_stop) <;> try simp only [kks, Nat.reduceAdd, Nat.reduceMul, Nat.reduceSub, Nat.reduceLeDiff, Nat.reduceEqDiff, ↓reduceIte, reduceCtorEq, Nat.reduceLT, Nat.reducePow, Nat.reduceDiv, Nat.reduceMod, Nat.reduceBEq, Int.reduceLT, Int.reduceLE, Int.reduceToNat, Int.reduceAdd, Int.reduceSub, Int.reduceNeg])
    | (with_reducible apply pg <;> (intro hc; (try simp only [hcb, Nat.reduceAdd, Nat.reduceMul, Nat.reduceSub, Nat.reduceLeDiff, Nat.reduceEqDiff, ↓reduceIte, reduceCtorEq, Nat.reduceLT, Nat.reducePow, Nat.reduceDiv, Nat.reduceMod, Nat.reduceBEq, Int.reduceLT, Int.reduceLE, Int.reduceToNat, Int.reduceAdd, Int.reduceSub, Int.reduceNeg, ne_eq, forall_const] at hc); first | (exfalso; omega) | exact absurd trivial hc | skip))
    | (with_reducible apply hnx; clear hnx nx)
    | (with_reducible refine And.intro (by omega) ?_)
    | (with_reducible refine And.intro ?_ ?_)
    | (with_reducible refine pe (c2) ?_)
    | (with_reducible refine pe (r1) ?_)
    | (with_reducible refine pe (r2) ?_)
    | (with_reducible refine pe (r3) ?_)
    | (with_reducible refine pe (r4) ?_)
    | (((with_reducible refine pcall_q1 i1 ?_); rintro _ Ha1 ⟨rfl, hEa1⟩; refine Ev_in ?_))
    | (clear hnx nx; with_reducible apply hnx; clear hnx nx)
    | (clear hnx nx; clear hnx nx; with_reducible apply hnx; clear hnx nx))
  all_goals first
    | exact absurd trivial hc
    | (exfalso
       omega)
    | skip
  clear i1 hEa
  rw [← hs2] at a2
  have i2 := in_k G a2 hEa1 (by omega) ok1
  simp only [List.map_nil] at i2
  repeat' (first
    | (with_reducible apply W_seq_k; intro nx hnx)
    | (with_reducible first | refine wr 17179868943 ?_ | refine wd (id := 19) 17179868943 5 (.op 0 true (.op 1 true (.op 2 true (.op 3 true (.op 4 true (.op 5 true (.op 6 true (.op 7 true (.op 8 true (.op 9 true (.op 10 true (.op 11 true (.op 12 true (.op 13 false (.op 14 true (.done)))))))))))))))) (by kernel_rfl) ?_ | refine wd (id := 33) 17179868943 5 (.op 0 true (.op 1 true (.op 2 true (.op 3 true (.op 4 true (.op 5 true (.op 6 true (.op 7 true (.op 8 true (.op 9 true (.op 10 true (.op 11 true (.op 12 true (.op 13 false (.op 14 true (.done)))))))))))))))) (by kernel_rfl) ?_)
    | ((with_reducible first | (apply WL_op; intro nx hnx) | refine Ev_out ?_ | refine wc ?_ | (apply popsD_op; intro nx hnx) | (refine popsD_alt ?_ ?_; intro nx hnx) | (refine pf hnm fun nm hnm => ?_; try simp only [fmb] at hnm) | (refine pm hnm fun nm hnm => ?_; try simp only [fmb] at hnm)); try (simp (maxSteps := 2000000) (disch := omega) only [ev, ↓evp, PV.cells, PV.one, PV.mem?, Value.cells, Nat.reduceAdd, Nat.reduceMul, Nat.reduceSub, Nat.reduceLeDiff, Nat.reduceEqDiff, ↓reduceIte, reduceCtorEq, Nat.reduceLT, Nat.reducePow, Nat.reduceDiv, Nat.reduceMod, Nat.reduceBEq, Int.reduceLT, Int.reduceLE, Int.reduceToNat, Int.reduceAdd, Int.reduceSub, Int.reduceNeg, hnm, Try.tf0, Try.tf1, Try.tf3, Try.tf4, Try.tf5, Try.tf22, Try.tf28, Try.tf33, Try.tf34, Try.tf35, Try.tf43, Try.tf44, Try.tf53, Try.tf65, Try.call10, Try.call11, Try.call13, Try.call17, Try.call18, Try.call19, Try.call21, Try.call23, Try.call28, Try.call29, Try.call31]))
    | ((with_reducible first | apply W_block | apply W_scope | apply WL_nil | apply W_label | apply W_skip | apply W_exit | apply W_ret | apply popsD_done | exact popsD_stop) <;> try simp only [kks, Nat.reduceAdd, Nat.reduceMul, Nat.reduceSub, Nat.reduceLeDiff, Nat.reduceEqDiff, ↓reduceIte, reduceCtorEq, Nat.reduceLT, Nat.reducePow, Nat.reduceDiv, Nat.reduceMod, Nat.reduceBEq, Int.reduceLT, Int.reduceLE, Int.reduceToNat, Int.reduceAdd, Int.reduceSub, Int.reduceNeg])
    | (with_reducible apply pg <;> (intro hc; (try simp only [hcb, Nat.reduceAdd, Nat.reduceMul, Nat.reduceSub, Nat.reduceLeDiff, Nat.reduceEqDiff, ↓reduceIte, reduceCtorEq, Nat.reduceLT, Nat.reducePow, Nat.reduceDiv, Nat.reduceMod, Nat.reduceBEq, Int.reduceLT, Int.reduceLE, Int.reduceToNat, Int.reduceAdd, Int.reduceSub, Int.reduceNeg, ne_eq, forall_const] at hc); first | (exfalso; omega) | exact absurd trivial hc | skip))
    | (with_reducible apply hnx; clear hnx nx)
    | (with_reducible refine And.intro (by omega) ?_)
    | (with_reducible refine And.intro ?_ ?_)
    | (with_reducible refine pe (r3) ?_)
    | (with_reducible refine pe (r4) ?_)
    | (((with_reducible refine pcall_q1 i2 ?_); rintro _ Ha2 ⟨rfl, hEa2⟩; refine Ev_in ?_))
    | (clear hnx nx; with_reducible apply hnx; clear hnx nx)
    | (clear hnx nx; clear hnx nx; with_reducible apply hnx; clear hnx nx))
  clear i2 hEa1
  have o1 := out_k G (outL_ok e2) hEa2 ok2 (by omega) e8
  have o2 := out_k G (outL_ok (s := winS win key n) rfl) hEc ok1 (by show win ≤ 1000; omega) hW1
  repeat' (first
    | ((refine W_nd fun nd47 => ?_; with_reducible refine W_wk ?_ (we c _ _ hEa3 hEc3)))
    | (with_reducible apply W_seq_k; intro nx hnx)
    | (with_reducible first | refine wr 17179868943 ?_ | refine wd (id := 19) 17179868943 5 (.op 0 true (.op 1 true (.op 2 true (.op 3 true (.op 4 true (.op 5 true (.op 6 true (.op 7 true (.op 8 true (.op 9 true (.op 10 true (.op 11 true (.op 12 true (.op 13 false (.op 14 true (.done)))))))))))))))) (by kernel_rfl) ?_ | refine wd (id := 33) 17179868943 5 (.op 0 true (.op 1 true (.op 2 true (.op 3 true (.op 4 true (.op 5 true (.op 6 true (.op 7 true (.op 8 true (.op 9 true (.op 10 true (.op 11 true (.op 12 true (.op 13 false (.op 14 true (.done)))))))))))))))) (by kernel_rfl) ?_)
    | ((with_reducible first | (apply WL_op; intro nx hnx) | refine Ev_out ?_ | refine wc ?_ | (apply popsD_op; intro nx hnx) | (refine popsD_alt ?_ ?_; intro nx hnx) | (refine pf hnm fun nm hnm => ?_; try simp only [fmb] at hnm) | (refine pm hnm fun nm hnm => ?_; try simp only [fmb] at hnm)); try (simp (maxSteps := 2000000) (disch := omega) only [ev, ↓evp, PV.cells, PV.one, PV.mem?, Value.cells, Nat.reduceAdd, Nat.reduceMul, Nat.reduceSub, Nat.reduceLeDiff, Nat.reduceEqDiff, ↓reduceIte, reduceCtorEq, Nat.reduceLT, Nat.reducePow, Nat.reduceDiv, Nat.reduceMod, Nat.reduceBEq, Int.reduceLT, Int.reduceLE, Int.reduceToNat, Int.reduceAdd, Int.reduceSub, Int.reduceNeg, hnm, Try.tf0, Try.tf1, Try.tf3, Try.tf4, Try.tf5, Try.tf22, Try.tf28, Try.tf33, Try.tf34, Try.tf35, Try.tf43, Try.tf44, Try.tf53, Try.tf65, Try.call10, Try.call11, Try.call13, Try.call17, Try.call18, Try.call19, Try.call21, Try.call23, Try.call28, Try.call29, Try.call31]))
    | ((with_reducible first | apply W_block | apply W_scope | apply WL_nil | apply W_label | apply W_skip | apply W_exit | apply W_ret | apply popsD_done | exact popsD_stop) <;> try simp only [kks, Nat.reduceAdd, Nat.reduceMul, Nat.reduceSub, Nat.reduceLeDiff, Nat.reduceEqDiff, ↓reduceIte, reduceCtorEq, Nat.reduceLT, Nat.reducePow, Nat.reduceDiv, Nat.reduceMod, Nat.reduceBEq, Int.reduceLT, Int.reduceLE, Int.reduceToNat, Int.reduceAdd, Int.reduceSub, Int.reduceNeg])
    | (with_reducible apply pg <;> (intro hc; (try simp only [hcb, Nat.reduceAdd, Nat.reduceMul, Nat.reduceSub, Nat.reduceLeDiff, Nat.reduceEqDiff, ↓reduceIte, reduceCtorEq, Nat.reduceLT, Nat.reducePow, Nat.reduceDiv, Nat.reduceMod, Nat.reduceBEq, Int.reduceLT, Int.reduceLE, Int.reduceToNat, Int.reduceAdd, Int.reduceSub, Int.reduceNeg, ne_eq, forall_const] at hc); first | (exfalso; omega) | exact absurd trivial hc | skip))
    | (with_reducible apply hnx; clear hnx nx)
    | (with_reducible refine And.intro (by omega) ?_)
    | (with_reducible refine And.intro ?_ ?_)
    | (((with_reducible refine pcall_q1 o1 ?_); rintro _ Ha3 ⟨rfl, hEa3⟩; refine Ev_in ?_))
    | (((with_reducible refine pcall_q0 o2 ?_); rintro _ Hc3 ⟨rfl, hEc3⟩; refine Ev_in ?_))
    | (clear hnx nx; with_reducible apply hnx; clear hnx nx)
    | (clear hnx nx; clear hnx nx; with_reducible apply hnx; clear hnx nx))
  refine Wk_fr (by simp only [wkb, Nat.reduceAdd, Nat.reduceMul, Nat.reduceSub, Nat.reduceLeDiff, Nat.reduceEqDiff, ↓reduceIte, reduceCtorEq, Nat.reduceLT, Nat.reducePow, Nat.reduceDiv, Nat.reduceMod, Nat.reduceBEq, Int.reduceLT, Int.reduceLE, Int.reduceToNat, Int.reduceAdd, Int.reduceSub, Int.reduceNeg]) ?_
  refine ⟨fun x hx => List.mem_append.2 (List.mem_append.1 hx).symm, ?_⟩
  exact (List.Perm.nodup_iff (List.Perm.map _ List.perm_append_comm)).1 nd47
end Go.PM
